/- The walk: each function that the law comes to as a plain Lean function, and a proof that the Go code answers so. Written by this session's program over the kit's printer. -/
import Derived.Test.YtagfiehoodepbaaDoorZ
import Derived.Test.YtagfiehoodepbaaDoorQFnOpStrict0
import Derived.Test.YtagfiehoodepbaaDoorQFnOpStrict4
namespace Go.Proofs.YtagfiehoodepbaaDoor.PFnOpStrict
open Go.RowKit Go.Proofs.YtagfiehoodepbaaDoorW.PrintWords Go.Proofs.YtagfiehoodepbaaDoorW.PrintLast Go.Proofs.YtagfiehoodepbaaDoorW.PrintMore
attribute [local go_sem] max2_int min2_int max_two min_two max_three min_three max_four min_four   -- for this text's walks alone
set_option linter.unusedVariables false
set_option linter.unusedSimpArgs false
/-! ### spec_l12Cut: function 27 -/
def spec_l12Cut.l0 : Nat → ByteArray → Int → List ByteArray → Int → Option (List ByteArray)
 | 0, _, _, _, _ => none
 | k + 1, x0, x1, x5, x6 => if x6 < (x0.size : Int) then (if 0 ≤ x6 then (if (bt x0 x6) = x1 then (if x5.length < 8796093022208 then (spec_l12Cut.l0 k x0 x1 (x5 ++ [(⟨#[]⟩ : ByteArray)]) (wrap64 (x6 + 1))) else (none)) else (if 0 ≤ (wrap64 ((x5.length : Int) - 1)) then (if (wrap64 ((x5.length : Int) - 1)) < (x5.length : Int) then ((some (([bt x0 x6] : List Int) : List Int)).bind fun y157 => (if (rdOf ByteArray.empty x5 (wrap64 ((x5.length : Int) - 1))).size + (strOfNums y157).size ≤ 9223372036854775807 then (spec_l12Cut.l0 k x0 x1 (x5.set ((wrap64 ((x5.length : Int) - 1)) : Int).toNat ((rdOf ByteArray.empty x5 (wrap64 ((x5.length : Int) - 1))) ++ (strOfNums y157))) (wrap64 (x6 + 1))) else (none))) else (none)) else (none))) else (none)) else (some x5)
def spec_l12Cut.f (k : Nat) (a0 : ByteArray) (a1 : Int) : Option (List ByteArray) := spec_l12Cut.l0 k a0 a1 (([(⟨#[]⟩ : ByteArray)] : List ByteArray)) 0
theorem spec_l12Cut.mono_l : ∀ k, (∀ y0 y1 y2 y3, LeO (spec_l12Cut.l0 k y0 y1 y2 y3) (spec_l12Cut.l0 (k + 1) y0 y1 y2 y3))
 | 0 => fun _ _ _ _ r h => by simp [spec_l12Cut.l0] at h
 | k + 1 => by
  have ih0 := spec_l12Cut.mono_l k
  intro y0 y1 y2 y3
  unfold spec_l12Cut.l0
  exact mo1 ih0
theorem spec_l12Cut.mono : ∀ a0 a1 k, LeO (spec_l12Cut.f k a0 a1) (spec_l12Cut.f (k + 1) a0 a1) := by
 intro a0 a1 k
 have ih0 := spec_l12Cut.mono_l k
 unfold spec_l12Cut.f
 exact mo1 ih0
def spec_l12Cut.T7 : Bool × List (List Nat × List Nat) := (true, [([], []), ([], []), ([1], [1]), ([2], [2]), ([], []), ([], []), ([5], [5]), ([6], [6]), ([4, 7], [4, 7]), ([8], [8]), ([], []), ([], []), ([10, 11], [10, 11]), ([12], [12]), ([13], [13]), ([9, 14], [9, 14]), ([0, 3, 0, 1, 2, 3, 4, 5, 6, 7, 8, 9, 10, 11, 12, 13, 14, 15], [0, 3]), ([16, 15, 0, 1, 2, 3, 4, 5, 6, 7, 8, 9, 10, 11, 12, 13, 14, 15], [15, 16])])
def spec_l12Cut.B7 : List Nat := [0, 0, 2, 6, 0, 0, 32, 96, 240, 496, 0, 0, 3072, 7168, 15360, 32752, 65535, 131071]
theorem spec_l12Cut.tab7 : rtab .any (opsOf Tryd.f27 7) = spec_l12Cut.T7 := by kernel_rfl
theorem spec_l12Cut.bits7 : waitsOk spec_l12Cut.T7.2 spec_l12Cut.B7 = true := by kernel_rfl
set_option maxHeartbeats 8000000 in
set_option maxRecDepth 100000 in
theorem spec_l12Cut.calls (k : Nat) (a0 : ByteArray) (a1 : Int) (r : List ByteArray) (w : World) (h : spec_l12Cut.f k a0 a1 = some r) :
 Calls Tryd.prog 27 #[.string a0, .int .u8 a1] w fun e w' => ∃ v0_ : Value, e = .returned (v0_) ∧ Kd.R Kd.string 9 w' w.heap.size (fun _ => True) v0_ r ∧ Below w.heap.size w w' := by
 have HB := am (Below.refl w.heap.size w)
 have H : (spec_l12Cut.l0 k a0 a1 (([(⟨#[]⟩ : ByteArray)] : List ByteArray)) 0) = some r := h
 clear h
 obtain ⟨y150, hy150⟩ : ∃ y_ : List ByteArray, y_ = (([(⟨#[]⟩ : ByteArray)] : List ByteArray)) := ⟨_, rfl⟩
 replace H : (spec_l12Cut.l0 k a0 a1 y150 0) = some r := hY hy150 H
 have Ny150 := am hy150
 clear hy150
 have H' := am H
 clear H
 go_enter Tryd.func27, Tryd.ntmps27
 go_wp2_with (first | ((with_reducible refine gate_dst (N := 7) rfl ?_); refine Kd.R_lit Kd.string _ 9 ?hg (N := 7) ?hd (xs := ([(⟨#[]⟩ : ByteArray)] : List ByteArray)) (inner := [.string (⟨#[]⟩ : ByteArray)]) (ok := fun _ => True) (okp := fun _ => True) ?hr ?hp (fun _ hk => hk) trivial (Below.refl _ _) (Nat.le_refl _) (by simp) ?_; (case hd => rfl); (case hg => rfl); (case hr => first | (go_simp; done) | (go_simp; rfl)); (case hp => exact (Reps.one (show Kd.M Kd.string _ _ _ (⟨#[]⟩ : ByteArray) [.string (⟨#[]⟩ : ByteArray)] from rfl) (Reps.none _ _))); intro v151 w3 ho4 hb hg_ hnew_; clear hg_ hnew_; (first | rw [← Ny150.out] at ho4 | (simp only [Int.reduceToNat] at ho4; rw [← Ny150.out] at ho4)); have HO152 := am (Kd.R_lower ho4 (below_size (zb HB))); replace HB := am (below_step (zb HB) hb); clear hb ho4))
 go_loopg [5, 6] k (fun kq v5 v6 w' => ∃ (x5_1 : List ByteArray) (x6_1 : Int), v6 = .int .i64 x6_1 ∧ Aside0 (spec_l12Cut.l0 kq a0 a1 x5_1 x6_1 = some r) ∧ Aside0 (kq ≤ k) ∧ Aside0 (Kd.R Kd.string 9 w' w.heap.size (fun _ => True) v5 x5_1) ∧ Aside0 (Below w.heap.size w w'))
 case atStart => exact ⟨(y150), (0), ze, H', ⟨Nat.le_refl _⟩, ⟨zr HO152⟩, ⟨zb HB⟩⟩
 case round =>
  clear H'
  try clear c2
  try clear p2
  obtain ⟨x5_1, x6_1, rfl, HA, HK1, HO_5, HB⟩ := hrel
  cases gk with
  | zero => exact absurd HA.out (by simp [spec_l12Cut.l0])
  | succ k1 =>
   have H := HA.out
   clear HA
   simp only [spec_l12Cut.l0] at H
   by_cases c5 : x6_1 < (a0.size : Int)
   rotate_left
   · rw [if_neg c5] at H
     have c5b0 : decide (x6_1 < (a0.size : Int)) = false := decide_eq_false c5
     clear c5
     obtain rfl := Option.some.inj H
     go_wp2
     go_ret
     exact ⟨_, zw, (zr HO_5), (zb HB)⟩
   rw [if_pos c5] at H
   have c5b0 : decide (x6_1 < (a0.size : Int)) = true := decide_eq_true c5
   clear c5
   by_cases c6 : 0 ≤ x6_1
   rotate_left
   · rw [if_neg c6] at H
     exact absurd H (by simp)
   rw [if_pos c6] at H
   have c6b0 : decide (0 ≤ x6_1) = true := decide_eq_true c6
   clear c6
   by_cases c8 : (bt a0 x6_1) = a1
   · rw [if_pos c8] at H
     have c8b0 : ((bt a0 x6_1) == a1) = true := beq_iff_eq.mpr c8
     have c8b1 : ((bt a0 x6_1) != a1) = false := bne_eq_false_iff_eq.mpr c8
     clear c8
     by_cases c9 : x5_1.length < 8796093022208
     rotate_left
     · rw [if_neg c9] at H
       exact absurd H (by simp)
     rw [if_pos c9] at H
     have LMc9 := am c9
     clear c9
     obtain ⟨y153, hy153⟩ : ∃ y_ : List ByteArray, y_ = (x5_1 ++ [(⟨#[]⟩ : ByteArray)]) := ⟨_, rfl⟩
     replace H : (spec_l12Cut.l0 k1 a0 a1 y153 (wrap64 (x6_1 + 1))) = some r := hY hy153 H
     have Ny153 := am hy153
     clear hy153
     have H' := am H
     clear H
     have p7 : 0 ≤ (x6_1 : Int) := of_decide_eq_true zl
     have q7 : x6_1 < (a0.size : Int) := of_decide_eq_true zl
     have hx7 := bt_at a0 x6_1
     replace p7 := eq_true p7
     replace q7 := eq_true q7
     go_wp2_with (first | ((with_reducible refine gate_builtin (b := .append) (xs := #[.tmp 19, .tmp 20]) rfl ?_); at_builtin; refine Kd.R_append Kd.string (w0 := w) w.heap.size rfl (.tmp 19) (.tmp 20) 43 9 (.string ⟨#[]⟩) 16 rfl Tryd.underlying43 info9 rfl (by decide) (by omega) u5 x5_1 (⟨#[]⟩ : ByteArray) [.string (⟨#[]⟩ : ByteArray)] (fun _ => True) (fun _ => False) rfl rfl ?aP (fun _ hk => hk.elim) ?aF ?aO ?aB ?aS ?aL ?_; (case aP => exact rfl); (case aB => exact (zb HB)); (case aF => exact (fun _ _ => trivial)); (case aO => exact (zr HO_5)); (case aS => exact (below_size (zb HB))); (case aL => have := LMc9.out; omega); intro v154 w10 ho hb hg hat; rw [← Ny153.out] at ho; replace HB := am (hb); have HO155 := am (ho); clear HO_5; clear ho hb hg hat))
     go_roundg k1
     case measure => have := HK1.out; omega
     case rel => exact ⟨(y153), (wrap64 (x6_1 + 1)), ze, H', ⟨by have := HK1.out; omega⟩, ⟨zr HO155⟩, ⟨zb HB⟩⟩
   rw [if_neg c8] at H
   have c8b0 : ((bt a0 x6_1) == a1) = false := beq_eq_false_iff_ne.mpr c8
   have c8b1 : ((bt a0 x6_1) != a1) = true := bne_iff_ne.mpr c8
   obtain ⟨ji11, hji11⟩ : ∃ j_ : Int, (wrap64 ((x5_1.length : Int) - 1)) = j_ := ⟨_, rfl⟩
   replace H : (if 0 ≤ (ji11) then (if (ji11) < (x5_1.length : Int) then ((some (([bt a0 x6_1] : List Int) : List Int)).bind fun y157 => (if (rdOf ByteArray.empty x5_1 (ji11)).size + (strOfNums y157).size ≤ 9223372036854775807 then (spec_l12Cut.l0 k1 a0 a1 (x5_1.set ((ji11) : Int).toNat ((rdOf ByteArray.empty x5_1 (ji11)) ++ (strOfNums y157))) (wrap64 (x6_1 + 1))) else (none))) else (none)) else (none)) = some r := by first | (rw [hji11] at H; exact H) | (simp only [hji11] at H ⊢; exact H)
   have hji11w : (IntKind.i64.wrap ((x5_1.length : Int) - 1)) = ji11 := (i64_w _).trans hji11
   by_cases c12 : 0 ≤ (ji11)
   rotate_left
   · rw [if_neg c12] at H
     exact absurd H (by simp)
   rw [if_pos c12] at H
   have c12b0 : decide (0 ≤ (ji11)) = true := decide_eq_true c12
   clear c12
   by_cases c13 : (ji11) < (x5_1.length : Int)
   rotate_left
   · rw [if_neg c13] at H
     exact absurd H (by simp)
   rw [if_pos c13] at H
   have c13b0 : decide ((ji11) < (x5_1.length : Int)) = true := decide_eq_true c13
   clear c13
   obtain ⟨y157, hy157⟩ : ∃ y_ : List Int, y_ = (([bt a0 x6_1] : List Int)) := ⟨_, rfl⟩
   replace H : (if (rdOf ByteArray.empty x5_1 (ji11)).size + (strOfNums y157).size ≤ 9223372036854775807 then (spec_l12Cut.l0 k1 a0 a1 (x5_1.set ((ji11) : Int).toNat ((rdOf ByteArray.empty x5_1 (ji11)) ++ (strOfNums y157))) (wrap64 (x6_1 + 1))) else (none)) = some r := hY hy157 H
   have Ny157 := am hy157
   clear hy157
   by_cases c15 : (rdOf ByteArray.empty x5_1 (ji11)).size + (strOfNums y157).size ≤ 9223372036854775807
   rotate_left
   · rw [if_neg c15] at H
     exact absurd H (by simp)
   rw [if_pos c15] at H
   have c15b0 := eq_true c15
   have c15b1 : decide ((rdOf ByteArray.empty x5_1 (ji11)).size + (strOfNums y157).size ≤ 9223372036854775807) = true := decide_eq_true c15
   try have c15b2 : (9223372036854775807 < (rdOf ByteArray.empty x5_1 (ji11)).size + (strOfNums y157).size) = False := eq_false (Nat.not_lt.2 c15)
   obtain ⟨y160, hy160⟩ : ∃ y_ : List ByteArray, y_ = (x5_1.set ((ji11) : Int).toNat ((rdOf ByteArray.empty x5_1 (ji11)) ++ (strOfNums y157))) := ⟨_, rfl⟩
   replace H : (spec_l12Cut.l0 k1 a0 a1 y160 (wrap64 (x6_1 + 1))) = some r := hY hy160 H
   have Ny160 := am hy160
   clear hy160
   have H' := am H
   clear H
   have p7 : 0 ≤ (x6_1 : Int) := of_decide_eq_true zl
   have q7 : x6_1 < (a0.size : Int) := of_decide_eq_true zl
   have hx7 := bt_at a0 x6_1
   replace p7 := eq_true p7
   replace q7 := eq_true q7
   try go_wp2
   replace HO_5 := am (Kd.R_drew HO_5.out)
   replace HB := am (below_drew1 HB.out)
   obtain ⟨Ao18, co18, eo18⟩ := Kd.R_slice HO_5.out
   (first | subst eo18 | (injection eo18 with f1_ f2_ f3_; have f4_ := f1_.symm; have f5_ := f3_.symm; clear f1_ f2_ f3_; subst f4_; subst f5_))
   have p156 : 0 ≤ ((ji11) : Int) := of_decide_eq_true zl
   have q156 : (ji11) < (x5_1.length : Int) := of_decide_eq_true zl
   obtain ⟨ad156, e156, hx156_0⟩ := Kd.at_string (Kd.R_reads' HO_5.out).2.2 (ji11) p156 q156
   cases e156
   replace p156 := eq_true p156
   replace q156 := eq_true q156
   have p14 : 0 ≤ (x6_1 : Int) := of_decide_eq_true zl
   have q14 : x6_1 < (a0.size : Int) := of_decide_eq_true zl
   have hx14 := bt_at a0 x6_1
   replace p14 := eq_true p14
   replace q14 := eq_true q14
   refine start_ (n := 18) (S := fun w' => w'.cell? (ad156.add ((ji11)).toNat) = some (.string (rdOf ByteArray.empty x5_1 (ji11)))) (ds := [17]) (bs 18 0) (by kernel_rfl) rfl rfl (hx156_0) (fun hHeld => ?_); refine with_tabW spec_l12Cut.tab7 spec_l12Cut.bits7 (fun HT_ HW_ => ?_)
   generalize wr.drew = w17 at HO_5 HB hx156_0 hHeld ⊢
   refine pu 0 22 18 1 rfl rfl ?_
   refine pu 1 23 18 3 rfl rfl ?_
   refine pu 2 24 18 7 rfl rfl ?_
   refine pu 3 25 18 15 rfl rfl ?_
   refine pu 4 26 18 31 rfl rfl ?_
   refine pu 5 27 18 63 rfl rfl ?_
   refine pu 6 28 18 127 rfl rfl ?_
   refine pu 7 29 18 255 rfl rfl ?_
   refine pu 8 30 18 511 rfl rfl ?_
   refine pu 10 32 18 1535 rfl rfl ?_
   refine pu 11 33 18 3583 rfl rfl ?_
   refine take_ (i := 9) (N := some 31) (v := ?_) (a' := ?_) (bs 18 4095) rfl rfl (take_ofW HT_.out HW_.out (by kernel_rfl)) (fun _ _ _ h => h) (Or.inl ⟨by rfl, ?_⟩) hHeld ?_ ?_
   rotate_left
   · intro w' s0
     go_simp
     with_reducible rfl
   rotate_left
   · simp only [Act.put, List.setIfInBounds_toArray, List.set_cons_zero, List.set_cons_succ, i64_w, i32_w]
     rfl
   refine take_ (i := 12) (N := some 34) (v := ?_) (a' := ?_) (bs 18 8191) rfl rfl (take_ofW HT_.out HW_.out (by kernel_rfl)) (fun _ _ _ h => h) (Or.inl ⟨by rfl, ?_⟩) hHeld ?_ ?_
   rotate_left
   · intro w' s0
     go_simp
     with_reducible rfl
   rotate_left
   · simp only [Act.put, List.setIfInBounds_toArray, List.set_cons_zero, List.set_cons_succ, i64_w, i32_w]
     rfl
   refine oz 13 18 16383 rfl rfl (fun K hK => ?_)
   refine Kd.R_lit_step (Kd.int .u8) _ 5 ?hg (N := 35) ?hd (xs := ([bt a0 x6_1] : List Int)) (inner := [.int .u8 (bt a0 x6_1)]) (ok := fun _ => True) (okp := fun _ => True) ?hr ?hp (fun _ hk => hk) trivial (Below.refl _ _) (Nat.le_refl _) (by simp) ?_; (case hd => rfl); (case hg => rfl); (case hr => first | (go_simp; done) | (go_simp; rfl)); (case hp => exact (Reps.one (show Kd.M (Kd.int .u8) _ _ _ (bt a0 x6_1) [.int .u8 (bt a0 x6_1)] from rfl) (Reps.none _ _)))
   intro v158 w19 ho20 hb hg_ hnew_
   have HS0_ := (hb.cell (World.block_lt_of_cell? _ _ (hHeld))).trans (hHeld)
   clear hg_ hnew_
   (first | rw [← Ny157.out] at ho20 | (simp only [Int.reduceToNat] at ho20; rw [← Ny157.out] at ho20))
   replace HO_5 := am (Kd.R_below (zr HO_5) hb)
   have HO159 := am (Kd.R_lower ho20 (below_size (zb HB)))
   replace HB := am (below_step (zb HB) hb)
   clear hb ho20
   have p16 : 0 ≤ ((ji11) : Int) := of_decide_eq_true zl
   have q16 : ((ji11) : Int) < ((x5_1.length : Int) : Int) := of_decide_eq_true zl
   obtain ⟨go16, co16, eo16, gb16, gl16, cl16, HG16⟩ := Kd.R_form HO_5.out (by omega)
   (first | cases eo16 | (injection eo16 with ea_ en_ ec_; (first | subst ea_ | (injection ea_ with ea_; subst ea_)); subst ec_; clear en_))
   have GB16 := am gb16
   have GG16 := am HG16
   clear gb16 gl16 HG16
   (first | simp only [add_plain] at hx156_0 | skip)
   obtain ⟨hx16_0, hf16_0⟩ := Kd.R_celln (⟨#[]⟩ : ByteArray) HO_5.out ((ji11) : Int) p16 q16
   replace p16 := eq_true p16
   replace q16 := eq_true q16
   have HP22 := Kd.R_putn HO_5.out ((ji11) : Int) ((rdOf ByteArray.empty x5_1 (ji11)) ++ (strOfNums y157))
   rw [← Ny160.out] at HP22
   have HQ22 := am HP22
   clear HP22
   refine hK.out _ _ (HS0_) (fun hHeld => ?_)
   clear hK K
   refine norm_ (a' := ?_) ?_ ?_
   rotate_left
   · show Act.put _ (some 35) _ = _
     simp only [Act.put, List.setIfInBounds_toArray, List.set_cons_zero, List.set_cons_succ, i64_w, i32_w]
     rfl
   refine oz 14 18 32767 rfl rfl (fun K hK => ?_)
   have hcv21 := own_string (P := Tryd.prog) Tryd.underlying22 Tryd.underlying5 Tryd.underlying9 (Kd.own_of_R HO159.out)
   refine value_ (w1 := ?_) (v := ?_) (by rfl) rfl ?_ ?_
   rotate_left 2
   · go_simp
     constructor
     · rfl
     rfl
   clear hcv21
   refine hK.out _ _ (hHeld) (fun hHeld => ?_)
   clear hK K
   refine norm_ (a' := ?_) ?_ ?_
   rotate_left
   · show Act.put _ (some 36) _ = _
     simp only [Act.put, List.setIfInBounds_toArray, List.set_cons_zero, List.set_cons_succ, i64_w, i32_w]
     rfl
   refine pu 15 37 18 65535 rfl rfl ?_
   refine pu 16 38 18 131071 rfl rfl ?_
   refine la 17 18 262143 rfl rfl (fun K hK => ?_)
   refine skip_ (w1 := ?_) (by rfl) rfl ?_ ?_
   rotate_left
   · go_simp
     rfl
   refine hK.out _ _ ?_
   clear hK K
   refine done_ (done_of HT_.out (by kernel_rfl)) ?_
   try go_wp2
   go_roundg k1
   case measure => have := HK1.out; omega
   case rel => exact ⟨(y160), (wrap64 (x6_1 + 1)), ze, H', ⟨by have := HK1.out; omega⟩, ⟨zr HQ22⟩, ⟨zb HB⟩⟩
/-! ### spec_l12Word: function 28 -/
def spec_l12Word.f (l0 : List ByteArray) (a1 : Int) : Option (ByteArray) := if a1 < (l0.length : Int) then (if 0 ≤ a1 then (some (rdOf ByteArray.empty l0 a1)) else (none)) else (some (⟨#[]⟩ : ByteArray))
set_option maxHeartbeats 8000000 in
set_option maxRecDepth 100000 in
theorem spec_l12Word.calls (A0 : Option Addr) (c0 : Nat) (l0 : List ByteArray) (a1 : Int) (r : ByteArray) (w : World) (hr0 : Kd.C Kd.string w A0 l0.length l0) (hc0 : l0.length ≤ c0) (h : spec_l12Word.f l0 a1 = some r) :
 Calls Tryd.prog 28 #[.slice A0 l0.length c0, .int .i64 a1] w fun e w' => e = .returned (.string r) ∧ Below w.heap.size w w' := by
 have HR0 := am hr0
 have HC0 := am hc0
 clear hr0 hc0
 have HB := am (Below.refl w.heap.size w)
 have H : (if a1 < (l0.length : Int) then (if 0 ≤ a1 then (some (rdOf ByteArray.empty l0 a1)) else (none)) else (some (⟨#[]⟩ : ByteArray))) = some r := h
 clear h
 by_cases c3 : a1 < (l0.length : Int)
 rotate_left
 · rw [if_neg c3] at H
   have c3b0 : decide (a1 < (l0.length : Int)) = false := decide_eq_false c3
   clear c3
   obtain rfl := Option.some.inj H
   go_enter Tryd.func28, Tryd.ntmps28
   go_wp2
   go_ret
   exact ⟨zv, (zb HB)⟩
 rw [if_pos c3] at H
 have c3b0 : decide (a1 < (l0.length : Int)) = true := decide_eq_true c3
 clear c3
 by_cases c4 : 0 ≤ a1
 rotate_left
 · rw [if_neg c4] at H
   exact absurd H (by simp)
 rw [if_pos c4] at H
 have c4b0 : decide (0 ≤ a1) = true := decide_eq_true c4
 clear c4
 obtain rfl := Option.some.inj H
 have p161 : 0 ≤ (a1 : Int) := of_decide_eq_true zl
 have q161 : a1 < (l0.length : Int) := of_decide_eq_true zl
 obtain ⟨ad161, e161, hx161_0⟩ := Kd.at_string HR0.out a1 p161 q161
 cases e161
 replace p161 := eq_true p161
 replace q161 := eq_true q161
 go_enter Tryd.func28, Tryd.ntmps28
 go_wp2
 go_ret
 exact ⟨zv, (zb HB)⟩
/-! ### spec_l12Dec: function 29 -/
def spec_l12Dec.l0 : Nat → ByteArray → Int → Int → Option (Int)
 | 0, _, _, _ => none
 | k + 1, x0, x3, x4 => if x4 < (x0.size : Int) then (if 0 ≤ x4 then (if (bt x0 x4) < 48 then (some (-1)) else (if (bt x0 x4) > 57 then (some (-1)) else (spec_l12Dec.l0 k x0 (wrap64 ((wrap64 (10 * x3)) + (((bt x0 x4) - 48) % 256))) (wrap64 (x4 + 1))))) else (none)) else (some x3)
def spec_l12Dec.f (k : Nat) (a0 : ByteArray) : Option (Int) := (spec_l6In.f (a0.size : Int) 1 2).bind fun t162 => (if t162 = true then (spec_l12Dec.l0 k a0 0 0) else (some (-1)))
theorem spec_l12Dec.mono_l : ∀ k, (∀ y0 y1 y2, LeO (spec_l12Dec.l0 k y0 y1 y2) (spec_l12Dec.l0 (k + 1) y0 y1 y2))
 | 0 => fun _ _ _ r h => by simp [spec_l12Dec.l0] at h
 | k + 1 => by
  have ih0 := spec_l12Dec.mono_l k
  intro y0 y1 y2
  unfold spec_l12Dec.l0
  exact mo1 ih0
theorem spec_l12Dec.mono : ∀ a0 k, LeO (spec_l12Dec.f k a0) (spec_l12Dec.f (k + 1) a0) := by
 intro a0 k
 have ih0 := spec_l12Dec.mono_l k
 unfold spec_l12Dec.f
 exact mo1 ih0
set_option maxHeartbeats 8000000 in
set_option maxRecDepth 100000 in
theorem spec_l12Dec.calls (k : Nat) (a0 : ByteArray) (r : Int) (w : World) (h : spec_l12Dec.f k a0 = some r) :
 Calls Tryd.prog 29 #[.string a0] w fun e w' => e = .returned (.int .i64 r) ∧ Below w.heap.size w w' := by
 have HB := am (Below.refl w.heap.size w)
 have H : ((spec_l6In.f (a0.size : Int) 1 2).bind fun t162 => (if t162 = true then (spec_l12Dec.l0 k a0 0 0) else (some (-1)))) = some r := h
 clear h
 replace H := obs H
 obtain ⟨t162, A20, H⟩ := H
 replace H : (if t162 = true then (spec_l12Dec.l0 k a0 0 0) else (some (-1))) = some r := H
 have A2 := am A20
 clear A20
 by_cases c3 : t162 = true
 rotate_left
 · replace c3 := Bool.eq_false_iff.mpr c3
   subst c3
   have H1 : (some (-1)) = some r := by rw [if_neg (show ¬ (false = true) by decide)] at H; exact H
   clear H
   have H := H1
   clear H1
   obtain rfl := Option.some.inj H
   go_enter Tryd.func29, Tryd.ntmps29
   go_wp2_with (first | ((with_reducible refine gate_callee (f := 38) rfl ?_); refine goesL_ (some 7) rfl rfl Tryd.func38 (by kernel_rfl) rfl #[.int .i64 (a0.size : Int), .int .i64 1, .int .i64 2] rfl (by (try simp only [List.map_toArray, List.map_cons, List.map_nil]); first | done | rfl | (simp only [List.length_drop, List.length_take]; rfl)) ?_; (with_reducible refine (spec_l6In.calls (a0.size : Int) 1 2 false _ A2.out).mono ?_); rintro e w' ⟨rfl, ⟨nd, rfl⟩⟩; refine ⟨_, rfl, ?_⟩))
   go_ret
   exact ⟨zv, (zb HB)⟩
 subst c3
 have H1 : (spec_l12Dec.l0 k a0 0 0) = some r := by rw [if_pos rfl] at H; exact H
 clear H
 have H := H1
 clear H1
 have H' := am H
 clear H
 go_enter Tryd.func29, Tryd.ntmps29
 go_wp2_with (first | ((with_reducible refine gate_callee (f := 38) rfl ?_); refine goesL_ (some 7) rfl rfl Tryd.func38 (by kernel_rfl) rfl #[.int .i64 (a0.size : Int), .int .i64 1, .int .i64 2] rfl (by (try simp only [List.map_toArray, List.map_cons, List.map_nil]); first | done | rfl | (simp only [List.length_drop, List.length_take]; rfl)) ?_; (with_reducible refine (spec_l6In.calls (a0.size : Int) 1 2 true _ A2.out).mono ?_); rintro e w' ⟨rfl, ⟨nd, rfl⟩⟩; refine ⟨_, rfl, ?_⟩))
 go_loopg [3, 4] k (fun kq v3 v4 w' => ∃ (x3_1 : Int) (x4_1 : Int), v3 = .int .i64 x3_1 ∧ v4 = .int .i64 x4_1 ∧ Aside0 (spec_l12Dec.l0 kq a0 x3_1 x4_1 = some r) ∧ Aside0 (kq ≤ k) ∧ Aside0 (Below w.heap.size w w'))
 case atStart => exact ⟨(0), (0), ze, ze, H', ⟨Nat.le_refl _⟩, ⟨zb HB⟩⟩
 case round =>
  clear H'
  try clear c2
  try clear p2
  try clear c3
  obtain ⟨x3_1, x4_1, rfl, rfl, HA, HK1, HB⟩ := hrel
  cases gk with
  | zero => exact absurd HA.out (by simp [spec_l12Dec.l0])
  | succ k1 =>
   have H := HA.out
   clear HA
   simp only [spec_l12Dec.l0] at H
   by_cases c4 : x4_1 < (a0.size : Int)
   rotate_left
   · rw [if_neg c4] at H
     have c4b0 : decide (x4_1 < (a0.size : Int)) = false := decide_eq_false c4
     clear c4
     obtain rfl := Option.some.inj H
     go_wp2
     go_ret
     exact ⟨zv, (zb HB)⟩
   rw [if_pos c4] at H
   have c4b0 : decide (x4_1 < (a0.size : Int)) = true := decide_eq_true c4
   clear c4
   by_cases c5 : 0 ≤ x4_1
   rotate_left
   · rw [if_neg c5] at H
     exact absurd H (by simp)
   rw [if_pos c5] at H
   have c5b0 : decide (0 ≤ x4_1) = true := decide_eq_true c5
   clear c5
   by_cases c7 : (bt a0 x4_1) < 48
   · rw [if_pos c7] at H
     have c7b0 : decide ((bt a0 x4_1) < 48) = true := decide_eq_true c7
     clear c7
     obtain rfl := Option.some.inj H
     have p6 : 0 ≤ (x4_1 : Int) := of_decide_eq_true zl
     have q6 : x4_1 < (a0.size : Int) := of_decide_eq_true zl
     have hx6 := bt_at a0 x4_1
     replace p6 := eq_true p6
     replace q6 := eq_true q6
     go_wp2
     go_ret
     exact ⟨zv, (zb HB)⟩
   rw [if_neg c7] at H
   have c7b0 : decide ((bt a0 x4_1) < 48) = false := decide_eq_false c7
   clear c7
   by_cases c9 : (bt a0 x4_1) > 57
   · rw [if_pos c9] at H
     have c9b0 : decide (57 < (bt a0 x4_1)) = true := decide_eq_true c9
     clear c9
     obtain rfl := Option.some.inj H
     have p6 : 0 ≤ (x4_1 : Int) := of_decide_eq_true zl
     have q6 : x4_1 < (a0.size : Int) := of_decide_eq_true zl
     have hx6 := bt_at a0 x4_1
     replace p6 := eq_true p6
     replace q6 := eq_true q6
     have p8 : 0 ≤ (x4_1 : Int) := of_decide_eq_true zl
     have q8 : x4_1 < (a0.size : Int) := of_decide_eq_true zl
     have hx8 := bt_at a0 x4_1
     replace p8 := eq_true p8
     replace q8 := eq_true q8
     go_wp2
     go_ret
     exact ⟨zv, (zb HB)⟩
   rw [if_neg c9] at H
   have c9b0 : decide (57 < (bt a0 x4_1)) = false := decide_eq_false c9
   clear c9
   have H' := am H
   clear H
   have p6 : 0 ≤ (x4_1 : Int) := of_decide_eq_true zl
   have q6 : x4_1 < (a0.size : Int) := of_decide_eq_true zl
   have hx6 := bt_at a0 x4_1
   replace p6 := eq_true p6
   replace q6 := eq_true q6
   have p8 : 0 ≤ (x4_1 : Int) := of_decide_eq_true zl
   have q8 : x4_1 < (a0.size : Int) := of_decide_eq_true zl
   have hx8 := bt_at a0 x4_1
   replace p8 := eq_true p8
   replace q8 := eq_true q8
   have p10 : 0 ≤ (x4_1 : Int) := of_decide_eq_true zl
   have q10 : x4_1 < (a0.size : Int) := of_decide_eq_true zl
   have hx10 := bt_at a0 x4_1
   replace p10 := eq_true p10
   replace q10 := eq_true q10
   go_wp2
   go_roundg k1
   case measure => have := HK1.out; omega
   case rel => exact ⟨(wrap64 ((wrap64 (10 * x3_1)) + (((bt a0 x4_1) - 48) % 256))), (wrap64 (x4_1 + 1)), ze, ze, H', ⟨by have := HK1.out; omega⟩, ⟨zb HB⟩⟩
end Go.Proofs.YtagfiehoodepbaaDoor.PFnOpStrict
