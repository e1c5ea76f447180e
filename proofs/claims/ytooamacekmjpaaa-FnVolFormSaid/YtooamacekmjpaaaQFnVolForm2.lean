/- The walk: each function that the law comes to as a plain Lean function, and a proof that the Go code answers so. Written by this session's program over the kit's printer. -/
import Derived.Test.YtooamacekmjpaaaZ
import Derived.Test.YtooamacekmjpaaaQFnVolForm0
import Derived.Test.YtooamacekmjpaaaQFnVolForm1
namespace Go.Proofs.Ytooamacekmjpaaa.PFnVolForm
open Go.RowKit Go.Proofs.YtooamacekmjpaaaW.PrintWords Go.Proofs.YtooamacekmjpaaaW.PrintLast Go.Proofs.YtooamacekmjpaaaW.PrintMore
attribute [local go_sem] max2_int min2_int max_two min_two max_three min_three max_four min_four   -- for this text's walks alone
set_option linter.unusedVariables false
set_option linter.unusedSimpArgs false
/-! ### spec_TextOk: function 65 -/
def spec_TextOk.l0 : Nat → ByteArray → Int → Option (Bool)
 | 0, _, _ => none
 | k + 1, x0, x3 => if x3 < (x0.size : Int) then (if 0 ≤ x3 then ((spec_l6In.f (wrap64 (bt x0 x3)) 97 100).bind fun t134 => (if t134 = true then (spec_TextOk.l0 k x0 (wrap64 (x3 + 1))) else (some false))) else (none)) else (some (decide ((x0.size : Int) ≤ 4)))
def spec_TextOk.f (k : Nat) (a0 : ByteArray) : Option (Bool) := spec_TextOk.l0 k a0 0
theorem spec_TextOk.mono_l : ∀ k, (∀ y0 y1, LeO (spec_TextOk.l0 k y0 y1) (spec_TextOk.l0 (k + 1) y0 y1))
 | 0 => fun _ _ r h => by simp [spec_TextOk.l0] at h
 | k + 1 => by
  have ih0 := spec_TextOk.mono_l k
  intro y0 y1
  unfold spec_TextOk.l0
  exact mo1 ih0
theorem spec_TextOk.mono : ∀ a0 k, LeO (spec_TextOk.f k a0) (spec_TextOk.f (k + 1) a0) := by
 intro a0 k
 have ih0 := spec_TextOk.mono_l k
 unfold spec_TextOk.f
 exact mo1 ih0
set_option maxHeartbeats 8000000 in
set_option maxRecDepth 100000 in
theorem spec_TextOk.calls (k : Nat) (a0 : ByteArray) (r : Bool) (w : World) (h : spec_TextOk.f k a0 = some r) :
 Calls Try.prog 65 #[.string a0] w fun e w' => e = .returned (.bool r) ∧ Drawn0 w w' := by
 have H : (spec_TextOk.l0 k a0 0) = some r := h
 clear h
 have H' := am H
 clear H
 go_enter Try.func65, Try.ntmps65
 go_wp2
 go_loopg [3] k (fun kq v3 w' => ∃ (x3_1 : Int), v3 = .int .i64 x3_1 ∧ Aside0 (spec_TextOk.l0 kq a0 x3_1 = some r) ∧ Aside0 (kq ≤ k) ∧ Drawn0 w w')
 case atStart => exact ⟨(0), ze, H', ⟨Nat.le_refl _⟩, by repeat (first | exact Drawn0.refl _ | apply Drawn0.step)⟩
 case round =>
  clear H'
  obtain ⟨x3_1, rfl, HA, HK1, ⟨m1, rfl⟩⟩ := hrel
  cases gk with
  | zero => exact absurd HA.out (by simp [spec_TextOk.l0])
  | succ k1 =>
   have H := HA.out
   clear HA
   simp only [spec_TextOk.l0] at H
   by_cases c2 : x3_1 < (a0.size : Int)
   rotate_left
   · rw [if_neg c2] at H
     have c2b0 : decide (x3_1 < (a0.size : Int)) = false := decide_eq_false c2
     clear c2
     obtain rfl := Option.some.inj H
     go_wp2
     go_ret
     exact ⟨by first | rfl | (simp; done) | (simp [*]; done), by repeat (first | exact Drawn0.refl _ | apply Drawn0.step)⟩
   rw [if_pos c2] at H
   have c2b0 : decide (x3_1 < (a0.size : Int)) = true := decide_eq_true c2
   clear c2
   by_cases c3 : 0 ≤ x3_1
   rotate_left
   · rw [if_neg c3] at H
     exact absurd H (by simp)
   rw [if_pos c3] at H
   have c3b0 : decide (0 ≤ x3_1) = true := decide_eq_true c3
   clear c3
   replace H := obs H
   obtain ⟨t134, A50, H⟩ := H
   replace H : (if t134 = true then (spec_TextOk.l0 k1 a0 (wrap64 (x3_1 + 1))) else (some false)) = some r := H
   have A5 := am A50
   clear A50
   by_cases c6 : t134 = true
   · subst c6
     have H1 : (spec_TextOk.l0 k1 a0 (wrap64 (x3_1 + 1))) = some r := by rw [if_pos rfl] at H; exact H
     clear H
     have H := H1
     clear H1
     have H' := am H
     clear H
     have p4 : 0 ≤ (x3_1 : Int) := of_decide_eq_true zl
     have q4 : x3_1 < (a0.size : Int) := of_decide_eq_true zl
     have hx4 := bt_at a0 x3_1
     replace p4 := eq_true p4
     replace q4 := eq_true q4
     go_wp2_with (first | ((with_reducible refine gate_callee (f := 55) rfl ?_); refine gl Try.func55 14 #[.int .i64 (wrap64 (bt a0 x3_1)), .int .i64 97, .int .i64 100] rfl rfl rfl ?_; (with_reducible refine (spec_l6In.calls (wrap64 (bt a0 x3_1)) 97 100 true _ A5.out).mono ?_); rintro e w' ⟨rfl, ⟨nd, rfl⟩⟩; refine ⟨_, rfl, ?_⟩))
     go_roundg k1
     case measure => have := HK1.out; omega
     case rel => exact ⟨(wrap64 (x3_1 + 1)), ze, H', ⟨by have := HK1.out; omega⟩, by repeat (first | exact Drawn0.refl _ | apply Drawn0.step)⟩
   replace c6 := Bool.eq_false_iff.mpr c6
   subst c6
   have H1 : (some false) = some r := by rw [if_neg (show ¬ (false = true) by decide)] at H; exact H
   clear H
   have H := H1
   clear H1
   obtain rfl := Option.some.inj H
   have p4 : 0 ≤ (x3_1 : Int) := of_decide_eq_true zl
   have q4 : x3_1 < (a0.size : Int) := of_decide_eq_true zl
   have hx4 := bt_at a0 x3_1
   replace p4 := eq_true p4
   replace q4 := eq_true q4
   go_wp2_with (first | ((with_reducible refine gate_callee (f := 55) rfl ?_); refine gl Try.func55 14 #[.int .i64 (wrap64 (bt a0 x3_1)), .int .i64 97, .int .i64 100] rfl rfl rfl ?_; (with_reducible refine (spec_l6In.calls (wrap64 (bt a0 x3_1)) 97 100 false _ A5.out).mono ?_); rintro e w' ⟨rfl, ⟨nd, rfl⟩⟩; refine ⟨_, rfl, ?_⟩))
   go_ret
   exact ⟨by first | rfl | (simp; done) | (simp [*]; done), by repeat (first | exact Drawn0.refl _ | apply Drawn0.step)⟩
/-! ### spec_l3Copy: function 92 -/
def spec_l3Copy.f (a0_0 : ByteArray) (l0_1 : List Int) : Option (ByteArray × List Int) := (some (([] : List Int) : List Int)).bind fun y137 => (if y137.length + l0_1.length < 17592186044416 then (some (a0_0, (y137 ++ l0_1))) else (none))
def spec_l3Copy.T1 : Bool × List (List Nat × List Nat) := (true, [([], []), ([0], [0]), ([], []), ([], []), ([3], [3]), ([2, 4], [2, 4]), ([1, 5], [1, 5]), ([6, 5, 0, 1, 2, 3, 4, 5, 6], [6])])
def spec_l3Copy.B1 : List Nat := [0, 1, 0, 0, 8, 28, 63, 127]
theorem spec_l3Copy.tab1 : rtab .any (opsOf Try.f92 1) = spec_l3Copy.T1 := by kernel_rfl
theorem spec_l3Copy.bits1 : waitsOk spec_l3Copy.T1.2 spec_l3Copy.B1 = true := by kernel_rfl
set_option maxHeartbeats 8000000 in
set_option maxRecDepth 100000 in
theorem spec_l3Copy.calls (a0_0 : ByteArray) (A0_1 : Option Addr) (c0_1 : Nat) (l0_1 : List Int) (r1 : ByteArray) (r2 : List Int) (w : World) (hr0_1 : Kd.C (Kd.int .i64) w A0_1 l0_1.length l0_1) (hc0_1 : l0_1.length ≤ c0_1) (h : spec_l3Copy.f a0_0 l0_1 = some (r1, r2)) :
 Calls Try.prog 92 #[.agg #[.string a0_0, .slice A0_1 l0_1.length c0_1]] w fun e w' => ∃ v1_ : Value, e = .returned (.agg #[.string r1, v1_]) ∧ Kd.R (Kd.int .i64) 3 w' w.heap.size (fun _ => True) v1_ r2 ∧ Below w.heap.size w w' := by
 have hu38 := Try.underlying38
 have HR0_1 := am hr0_1
 have HC0_1 := am hc0_1
 clear hr0_1 hc0_1
 have HB := am (Below.refl w.heap.size w)
 have H : ((some (([] : List Int) : List Int)).bind fun y137 => (if y137.length + l0_1.length < 17592186044416 then (some (a0_0, (y137 ++ l0_1))) else (none))) = some (r1, r2) := h
 clear h
 obtain ⟨y137, hy137⟩ : ∃ y_ : List Int, y_ = (([] : List Int)) := ⟨_, rfl⟩
 replace H : (if y137.length + l0_1.length < 17592186044416 then (some (a0_0, (y137 ++ l0_1))) else (none)) = some (r1, r2) := hY hy137 H
 have Ny137 := am hy137
 clear hy137
 by_cases c2 : y137.length + l0_1.length < 17592186044416
 rotate_left
 · rw [if_neg c2] at H
   exact absurd H (by simp)
 rw [if_pos c2] at H
 have LMc2 := am c2
 clear c2
 obtain ⟨y140, hy140⟩ : ∃ y_ : List Int, y_ = (y137 ++ l0_1) := ⟨_, rfl⟩
 replace H : (some (a0_0, y140)) = some (r1, r2) := hY hy140 H
 have Ny140 := am hy140
 clear hy140
 simp only [Option.some.injEq, Prod.mk.injEq] at H
 obtain ⟨rfl, rfl⟩ := H
 go_enter Try.func92, Try.ntmps92
 try go_wp2_with (first | ((with_reducible refine gate_dst (N := 1) rfl ?_); refine bx 38 #[.string a0_0, .slice A0_1 l0_1.length c0_1] ?_; intro gb135 hg w3 hbox hb; have BK135 := am (hbox); have GW135 := am (zn hg (zb HB)); have GE135 := am (zn hg (zb HB)); replace HB := am (below_step (zb HB) hb); clear hb hbox hg) | ((with_reducible refine gate_dst (N := 2) rfl ?_); refine bx 38 #[.string (⟨#[]⟩ : ByteArray), .slice none 0 0] ?_; intro gb136 hg w4 hbox hb; have BK136 := am (hbox); have GW136 := am (zn hg (zb HB)); have GE136 := am (zn hg (zb HB)); replace HB := am (below_step (zb HB) hb); have NB135_136 := am (zx hg (zk BK135)); have NB136_135 := am (zy hg (zk BK135)); replace BK135 := am (blk_below (zk BK135) hb); clear hb hbox hg))
 replace BK135 := am (blk_drew BK135.out)
 replace BK136 := am (blk_drew BK136.out)
 replace HB := am (below_drew1 HB.out)
 refine start_ (n := 8) (S := fun w' => w'.cell? ⟨gb135, 0, none⟩ = some (.string a0_0) ∧ w'.cell? ⟨gb135, 1, none⟩ = some (.slice A0_1 l0_1.length c0_1)) (ds := []) (bs 8 0) (by kernel_rfl) rfl rfl ⟨ce0 BK135, ce1 BK135⟩ (fun hHeld => ?_); refine with_tabW spec_l3Copy.tab1 spec_l3Copy.bits1 (fun HT_ HW_ => ?_)
 generalize w4.drew = w5 at BK135 BK136 HB hHeld ⊢
 refine pu 0 3 8 1 rfl rfl ?_
 refine pu 3 6 8 9 rfl rfl ?_
 refine ta2 1 4 8 11 rfl rfl hHeld ?_
 refine ta2 4 7 8 27 rfl rfl hHeld ?_
 refine oz 2 8 31 rfl rfl (fun K hK => ?_)
 refine Kd.R_lit_step (Kd.int .i64) _ 3 ?hg (N := 5) ?hd (xs := ([] : List Int)) (inner := []) (ok := fun _ => True) (okp := fun _ => True) ?hr ?hp (fun _ hk => hk) trivial (Below.refl _ _) (Nat.le_refl _) (by simp) ?_; (case hd => rfl); (case hg => rfl); (case hr => first | (go_simp; done) | (go_simp; rfl)); (case hp => exact (Reps.none _ _))
 intro v138 w6 ho7 hb hg_ hnew_
 clear hg_ hnew_
 (first | rw [← Ny137.out] at ho7 | (simp only [Int.reduceToNat] at ho7; rw [← Ny137.out] at ho7))
 have HO139 := am (Kd.R_lower ho7 (below_size (zb HB)))
 replace BK135 := am (blk_below (zk BK135) hb)
 replace BK136 := am (blk_below (zk BK136) hb)
 replace HB := am (below_step (zb HB) hb)
 clear hb ho7
 refine hK.out _ _ ⟨ce0 BK135, ce1 BK135⟩ (fun hHeld => ?_)
 clear hK K
 refine norm_ (a' := ?_) ?_ ?_
 rotate_left
 · show Act.put _ (some 5) _ = _
   simp only [Act.put, List.setIfInBounds_toArray, List.set_cons_zero, List.set_cons_succ, i64_w, i32_w]
   rfl
 refine oz 5 8 63 rfl rfl (fun K hK => ?_)
 refine Kd.R_append_rows_step (Kd.int .i64) (w0 := w) w.heap.size (by rfl) (.tmp 5) (.tmp 7) 36 3 (.int .i64 0) 8 rfl Try.underlying36 info3 rfl (by decide) (by omega) v138 y137 l0_1 _ _ _ (fun _ => True) (fun _ => False) rfl rfl ?aO ?aR (fun _ _ h => h) (fun _ h => h.elim) ?aF ?aB ?aS ?aL ?_
 (case aR => repeat (first | exact (Kd.C_below HR0_1.out HB.out) | (with_reducible refine Kd.C_alloc ?_ _) | (with_reducible refine Kd.C_drewN ?_ _) | (with_reducible refine Kd.C_drew ?_)))
 (case aB => exact (zb HB))
 (case aF => exact (fun _ _ => trivial))
 (case aO => exact (zr HO139))
 (case aS => exact (below_size (zb HB)))
 (case aL => have := LMc2.out; omega)
 intro v141 w8 ho hb hg hat
 rw [← Ny140.out] at ho
 replace BK135 := am (blk_grown (zk BK135) hg (Kd.R_ne HO139.out BK135.out (by decide)))
 replace BK136 := am (blk_grown (zk BK136) hg (Kd.R_ne HO139.out BK136.out (by decide)))
 replace HB := am (hb)
 have HO142 := am (ho)
 clear HO139 ho hb hg hat
 obtain ⟨Ao9, co9, eo9⟩ := Kd.R_slice HO142.out
 (first | subst eo9 | (injection eo9 with f1_ f2_ f3_; have f4_ := f1_.symm; have f5_ := f3_.symm; clear f1_ f2_ f3_; subst f4_; subst f5_))
 refine hK.out _ _ ⟨ce0 BK135, ce1 BK135⟩ (fun hHeld => ?_)
 clear hK K
 refine norm_ (a' := ?_) ?_ ?_
 rotate_left
 · show Act.put _ (some 8) _ = _
   simp only [Act.put, List.setIfInBounds_toArray, List.set_cons_zero, List.set_cons_succ, i64_w, i32_w]
   rfl
 refine pu 6 9 8 127 rfl rfl ?_
 refine oz 7 8 255 rfl rfl (fun K hK => ?_)
 have hs10 := ce0 BK136
 have hfs10 := bfz BK136 0
 have hns10_0 := NB135_136.out
 have hms10_0 := NB136_135.out
 have hs11 := ce1 BK136
 have hfs11 := bfz BK136 1
 have hns11_0 := NB135_136.out
 have hms11_0 := NB136_135.out
 refine skip_ (w1 := ?_) (by rfl) rfl ?_ ?_
 rotate_left
 · go_simp
   rfl
 refine hK.out _ _ ⟨((cell_far (p := ⟨gb136, _, none⟩) NB135_136.out _).trans (((cell_far (p := ⟨gb136, _, none⟩) NB135_136.out _).trans (hHeld.1)))), ((cell_far (p := ⟨gb136, _, none⟩) NB135_136.out _).trans (((cell_far (p := ⟨gb136, _, none⟩) NB135_136.out _).trans (hHeld.2))))⟩ (fun hHeld => ?_)
 clear hK K
 refine done_ (done_of HT_.out (by kernel_rfl)) ?_
 try go_wp2
 refine bodyPost_ret (results_cell_row rfl _ _ gb136 38 #[.string a0_0, .slice Ao9 y140.length co9] (0, 0) _ rfl (zp BK136) Try.underlying38 rfl (by kernel_rfl)) rfl ?_
 exact ⟨_, zw, by (with_reducible repeat (first | apply Kd.R_alloc | apply Kd.R_drewN | apply Kd.R_drew)); exact Kd.R_mono (Kd.R_far (p := ⟨gb136, 1, none⟩) (Kd.R_far (p := ⟨gb136, 0, none⟩) (Kd.R_types HO142.out BK136.out (by decide)) (fun _ hk => hk.2) (.string a0_0)) (fun _ hk => hk.2) (.slice Ao9 y140.length co9)) (fun _ hk => trivial), (zb HB)⟩
/-! ### spec_l2Copy: function 93 -/
def spec_l2Copy.f (l0 : List (S55)) : Option ((List (S55))) := (some (([] : List (S55)) : List (S55))).bind fun y143 => (if y143.length + l0.length < 5864062014805 then (some (y143 ++ l0)) else (none))
set_option maxHeartbeats 8000000 in
set_option maxRecDepth 100000 in
theorem spec_l2Copy.calls (A0 : Option Addr) (c0 : Nat) (l0 : List (S55)) (r : List (S55)) (w : World) (hr0 : Kd.C k55 w A0 l0.length l0) (hc0 : l0.length ≤ c0) (h : spec_l2Copy.f l0 = some r) :
 Calls Try.prog 93 #[.slice A0 l0.length c0] w fun e w' => ∃ v0_ : Value, e = .returned (v0_) ∧ Kd.R k55 55 w' w.heap.size (fun _ => True) v0_ r ∧ Below w.heap.size w w' := by
 have HR0 := am hr0
 have HC0 := am hc0
 clear hr0 hc0
 have HB := am (Below.refl w.heap.size w)
 have H : ((some (([] : List (S55)) : List (S55))).bind fun y143 => (if y143.length + l0.length < 5864062014805 then (some (y143 ++ l0)) else (none))) = some r := h
 clear h
 obtain ⟨y143, hy143⟩ : ∃ y_ : List (S55), y_ = (([] : List (S55))) := ⟨_, rfl⟩
 replace H : (if y143.length + l0.length < 5864062014805 then (some (y143 ++ l0)) else (none)) = some r := hY hy143 H
 have Ny143 := am hy143
 clear hy143
 by_cases c2 : y143.length + l0.length < 5864062014805
 rotate_left
 · rw [if_neg c2] at H
   exact absurd H (by simp)
 rw [if_pos c2] at H
 have LMc2 := am c2
 clear c2
 obtain ⟨y146, hy146⟩ : ∃ y_ : List (S55), y_ = (y143 ++ l0) := ⟨_, rfl⟩
 replace H : (some y146) = some r := hY hy146 H
 have Ny146 := am hy146
 clear hy146
 obtain rfl := Option.some.inj H
 go_enter Try.func93, Try.ntmps93
 go_wp2_with (first | ((with_reducible refine gate_dst (N := 3) rfl ?_); refine Kd.R_lit k55 _ 55 ?hg (N := 3) ?hd (xs := ([] : List (S55))) (inner := []) (ok := fun _ => True) (okp := fun _ => True) ?hr ?hp (fun _ hk => hk) trivial (Below.refl _ _) (Nat.le_refl _) (by simp) ?_; (case hd => rfl); (case hg => rfl); (case hr => first | (go_simp; done) | (go_simp; rfl)); (case hp => exact (Reps.none _ _)); intro v144 w3 ho4 hb hg_ hnew_; clear hg_ hnew_; (first | rw [← Ny143.out] at ho4 | (simp only [Int.reduceToNat] at ho4; rw [← Ny143.out] at ho4)); have HO145 := am (Kd.R_lower ho4 (below_size (zb HB))); replace HB := am (below_step (zb HB) hb); clear hb ho4) | ((with_reducible refine gate_builtin (b := .append) (xs := #[.tmp 3, .tmp 4]) rfl ?_); at_builtin; refine Kd.R_append_rows k55 (w0 := w) w.heap.size rfl (.tmp 3) (.tmp 4) 28 55 (.agg #[(.string ⟨#[]⟩), (.int .i64 0)]) 24 rfl Try.underlying28 info55 rfl (by decide) (by omega) v144 y143 l0 _ _ _ (fun _ => True) (fun _ => False) rfl rfl ?aO ?aR (fun _ _ h => h) (fun _ h => h.elim) ?aF ?aB ?aS ?aL ?_; (case aR => repeat (first | exact (Kd.C_below HR0.out HB.out) | (with_reducible refine Kd.C_alloc ?_ _) | (with_reducible refine Kd.C_drewN ?_ _) | (with_reducible refine Kd.C_drew ?_))); (case aB => exact (zb HB)); (case aF => exact (fun _ _ => trivial)); (case aO => exact (zr HO145)); (case aS => exact (below_size (zb HB))); (case aL => have := LMc2.out; omega); intro v147 w5 ho hb hg hat; rw [← Ny146.out] at ho; replace HB := am (hb); have HO148 := am (ho); clear HO145; clear ho hb hg hat))
 go_ret
 exact ⟨_, zw, (zr HO148), (zb HB)⟩
/-! ### spec_l11Copy: function 82 -/
def spec_l11Copy.l0 : Nat → List (S38) → Int → List (S55) → List (S38) → Option ((List (S55)) × (List (S38)))
 | 0, _, _, _, _ => none
 | k + 1, x3, x4, x150000, x150001 => if x4 < (x150001.length : Int) then (if 0 ≤ x4 then ((spec_l3Copy.f ((rd_T38 x150001 x4).f0) ((rd_T38 x150001 x4).f1)).bind fun bt155 => (if x3.length < 3518437208883 then (spec_l11Copy.l0 k (x3 ++ [(⟨bt155.1, bt155.2⟩ : S38)]) (wrap64 (x4 + 1)) x150000 x150001) else (none))) else (none)) else ((spec_l2Copy.f x150000).bind fun t162 => (some (t162, x3)))
def spec_l11Copy.f (k : Nat) (l0_0 : List (S55)) (l0_1 : List (S38)) : Option ((List (S55)) × (List (S38))) := spec_l11Copy.l0 k (([] : List (S38))) 0 l0_0 l0_1
theorem spec_l11Copy.mono_l : ∀ k, (∀ y0 y1 y2 y3, LeO (spec_l11Copy.l0 k y0 y1 y2 y3) (spec_l11Copy.l0 (k + 1) y0 y1 y2 y3))
 | 0 => fun _ _ _ _ r h => by simp [spec_l11Copy.l0] at h
 | k + 1 => by
  have ih0 := spec_l11Copy.mono_l k
  intro y0 y1 y2 y3
  unfold spec_l11Copy.l0
  exact mo1 ih0
theorem spec_l11Copy.mono : ∀ a0 a1 k, LeO (spec_l11Copy.f k a0 a1) (spec_l11Copy.f (k + 1) a0 a1) := by
 intro a0 a1 k
 have ih0 := spec_l11Copy.mono_l k
 unfold spec_l11Copy.f
 exact mo1 ih0
set_option maxHeartbeats 8000000 in
set_option maxRecDepth 100000 in
theorem spec_l11Copy.calls (k : Nat) (A0_0 : Option Addr) (c0_0 : Nat) (l0_0 : List (S55)) (A0_1 : Option Addr) (c0_1 : Nat) (l0_1 : List (S38)) (r1 : List (S55)) (r2 : List (S38)) (w : World) (hr0_0 : Kd.C k55 w A0_0 l0_0.length l0_0) (hc0_0 : l0_0.length ≤ c0_0) (hr0_1 : Kd.C k38 w A0_1 l0_1.length l0_1) (hc0_1 : l0_1.length ≤ c0_1) (h : spec_l11Copy.f k l0_0 l0_1 = some (r1, r2)) :
 Calls Try.prog 82 #[.agg #[.slice A0_0 l0_0.length c0_0, .slice A0_1 l0_1.length c0_1]] w fun e w' => ∃ v0_ v1_ : Value, e = .returned (.agg #[v0_, v1_]) ∧ Kd.R k55 55 w' w.heap.size (fun _ => True) v0_ r1 ∧ Kd.S k38 38 w' w.heap.size (fun _ => True) v1_ r2 ∧ Below w.heap.size w w' := by
 have hu31 := Try.underlying31
 have hu38 := Try.underlying38
 have HR0_0 := am hr0_0
 have HC0_0 := am hc0_0
 clear hr0_0 hc0_0
 have HR0_1 := am hr0_1
 have HC0_1 := am hc0_1
 clear hr0_1 hc0_1
 have HB := am (Below.refl w.heap.size w)
 have H : (spec_l11Copy.l0 k (([] : List (S38))) 0 l0_0 l0_1) = some (r1, r2) := h
 clear h
 obtain ⟨y151, hy151⟩ : ∃ y_ : List (S38), y_ = (([] : List (S38))) := ⟨_, rfl⟩
 replace H : (spec_l11Copy.l0 k y151 0 l0_0 l0_1) = some (r1, r2) := hY hy151 H
 have Ny151 := am hy151
 clear hy151
 have H' := am H
 clear H
 go_enter Try.func82, Try.ntmps82
 go_wp2_with (first | ((with_reducible refine gate_dst (N := 1) rfl ?_); refine bx 31 #[.slice A0_0 l0_0.length c0_0, .slice A0_1 l0_1.length c0_1] ?_; intro gb149 hg w2 hbox hb; have BK149 := am (hbox); have GW149 := am (zn hg (zb HB)); have GE149 := am (zn hg (zb HB)); replace HB := am (below_step (zb HB) hb); clear hb hbox hg) | ((with_reducible refine gate_dst (N := 2) rfl ?_); refine bx 31 #[.slice none 0 0, .slice none 0 0] ?_; intro gb150 hg w3 hbox hb; have BK150 := am (hbox); have GW150 := am (zn hg (zb HB)); have GE150 := am (zn hg (zb HB)); replace HB := am (below_step (zb HB) hb); have NB149_150 := am (zx hg (zk BK149)); have NB150_149 := am (zy hg (zk BK149)); replace BK149 := am (blk_below (zk BK149) hb); clear hb hbox hg) | ((with_reducible refine gate_dst (N := 5) rfl ?_); refine Kd.S_lit k38 _ 38 ?hg (N := 5) ?hd (xs := ([] : List (S38))) (inner := []) (ok := fun _ => True) (okp := fun _ => True) ?hr ?hp (fun _ hk => hk) trivial (Below.refl _ _) (Nat.le_refl _) (by simp) ?_; (case hd => rfl); (case hg => rfl); (case hr => first | (go_simp; done) | (go_simp; rfl)); (case hp => exact (Reps.none _ _)); intro v152 w4 ho5 hb hg_ hnew_; clear hg_ hnew_; (first | rw [← Ny151.out] at ho5 | (simp only [Int.reduceToNat] at ho5; rw [← Ny151.out] at ho5)); have HO153 := am (Kd.S_lower ho5 (below_size (zb HB))); replace BK149 := am (blk_below (zk BK149) hb); replace BK150 := am (blk_below (zk BK150) hb); replace HB := am (below_step (zb HB) hb); clear hb ho5))
 go_loopg [3, 4] k (fun kq v3 v4 w' => ∃ (x3_1 : List (S38)) (x4_1 : Int), v4 = .int .i64 x4_1 ∧ Aside0 (spec_l11Copy.l0 kq x3_1 x4_1 l0_0 l0_1 = some (r1, r2)) ∧ Aside0 (kq ≤ k) ∧ Aside0 (Kd.S k38 38 w' w.heap.size (fun _ => True) v3 x3_1) ∧ Aside0 (w'.heap[gb149]? = some (.cells #[(.slice A0_0 l0_0.length c0_0), (.slice A0_1 l0_1.length c0_1)] 31 (0, 0))) ∧ Aside0 (w'.heap[gb150]? = some (.cells #[(.slice none 0 0), (.slice none 0 0)] 31 (0, 0))) ∧ Aside0 (Below w.heap.size w w'))
 case atStart => exact ⟨(y151), (0), ze, H', ⟨Nat.le_refl _⟩, ⟨zs HO153⟩, ⟨zk BK149⟩, ⟨zk BK150⟩, ⟨zb HB⟩⟩
 case round =>
  clear H'
  try clear p2
  obtain ⟨x3_1, x4_1, rfl, HA, HK1, HO_3, BK149, BK150, HB⟩ := hrel
  cases gk with
  | zero => exact absurd HA.out (by simp [spec_l11Copy.l0])
  | succ k1 =>
   have H := HA.out
   clear HA
   simp only [spec_l11Copy.l0] at H
   by_cases c6 : x4_1 < (l0_1.length : Int)
   rotate_left
   · rw [if_neg c6] at H
     have c6b0 : decide (x4_1 < (l0_1.length : Int)) = false := decide_eq_false c6
     clear c6
     replace H := obs H
     obtain ⟨t162, A150, H⟩ := H
     replace H : (some (t162, x3_1)) = some (r1, r2) := H
     have A15 := am A150
     clear A150
     simp only [Option.some.injEq, Prod.mk.injEq] at H
     obtain ⟨rfl, rfl⟩ := H
     have hnb16 := NB149_150.out
     have hnc16 := NB150_149.out
     have hcz17_0 := ce0 BK149
     have hcz17_1 := ce1 BK149
     have hfz17_0 := bfz BK149 0
     have hfz17_1 := bfz BK149 1
     go_wp2_with (first | ((with_reducible refine gate_callee (f := 93) rfl ?_); refine gl Try.func93 24 #[.slice A0_0 l0_0.length c0_0] rfl rfl rfl ?_; (with_reducible refine (spec_l2Copy.calls _ _ l0_0 t162 _ ?side1 ?side2 A15.out).mono ?_); (case side1 => exact zc (Kd.C_below HR0_0.out HB.out)); (case side2 => exact HC0_0.out); rintro e w18 ⟨v163, rfl, ho0, hb⟩; refine ⟨_, rfl, ?_⟩; replace HO_3 := am (Kd.S_below (zs HO_3) hb); have HO164 := am (Kd.R_lower ho0 (below_size (zb HB))); replace BK149 := am (blk_below (zk BK149) hb); replace BK150 := am (blk_below (zk BK150) hb); replace HB := am (below_step (zb HB) hb); (try clear hb); (try clear hb2); (try clear hk); (try clear hi); (try clear ho0); obtain ⟨Ao19, co19, eo19⟩ := Kd.S_slice HO_3.out; subst eo19; obtain ⟨Ao20, co20, eo20⟩ := Kd.R_slice HO164.out; subst eo20; have hcz21_0 := ce0 BK150; have hcz21_1 := ce1 BK150; have hfz21_0 := bfz BK150 0; have hfz21_1 := bfz BK150 1))
     refine bodyPost_ret (results_cell_row rfl _ _ gb150 31 #[.slice Ao20 t162.length co20, .slice Ao19 x3_1.length co19] (0, 0) _ rfl (zp BK150) Try.underlying31 rfl (by kernel_rfl)) rfl ?_
     exact ⟨_, _, zw, by (with_reducible repeat (first | apply Kd.R_alloc | apply Kd.R_drewN | apply Kd.R_drew)); exact Kd.R_mono (Kd.R_far (p := ⟨gb150, 1, none⟩) (Kd.R_far (p := ⟨gb150, 0, none⟩) (Kd.R_types HO164.out BK150.out (by decide)) (fun _ hk => hk.2) (.slice Ao20 t162.length co20)) (fun _ hk => hk.2) (.slice Ao19 x3_1.length co19)) (fun _ hk => trivial), by (with_reducible repeat (first | apply Kd.S_alloc | apply Kd.S_drewN | apply Kd.S_drew)); exact Kd.S_mono (Kd.S_far (p := ⟨gb150, 1, none⟩) (Kd.S_far (p := ⟨gb150, 0, none⟩) (Kd.S_types HO_3.out BK150.out (by decide)) (fun _ hk => hk.2) (.slice Ao20 t162.length co20)) (fun _ hk => hk.2) (.slice Ao19 x3_1.length co19)) (fun _ hk => trivial), (zb HB)⟩
   rw [if_pos c6] at H
   have c6b0 : decide (x4_1 < (l0_1.length : Int)) = true := decide_eq_true c6
   clear c6
   by_cases c7 : 0 ≤ x4_1
   rotate_left
   · rw [if_neg c7] at H
     exact absurd H (by simp)
   rw [if_pos c7] at H
   have c7b0 : decide (0 ≤ x4_1) = true := decide_eq_true c7
   clear c7
   replace H := obs H
   obtain ⟨⟨t155, t156⟩, A80, H⟩ := H
   replace H : (if x3_1.length < 3518437208883 then (spec_l11Copy.l0 k1 (x3_1 ++ [(⟨t155, t156⟩ : S38)]) (wrap64 (x4_1 + 1)) l0_0 l0_1) else (none)) = some (r1, r2) := H
   have A8 := am A80
   clear A80
   by_cases c9 : x3_1.length < 3518437208883
   rotate_left
   · rw [if_neg c9] at H
     exact absurd H (by simp)
   rw [if_pos c9] at H
   have LMc9 := am c9
   clear c9
   obtain ⟨y159, hy159⟩ : ∃ y_ : List (S38), y_ = (x3_1 ++ [(⟨t155, t156⟩ : S38)]) := ⟨_, rfl⟩
   replace H : (spec_l11Copy.l0 k1 y159 (wrap64 (x4_1 + 1)) l0_0 l0_1) = some (r1, r2) := hY hy159 H
   have Ny159 := am hy159
   clear hy159
   have H' := am H
   clear H
   have hnb10 := NB149_150.out
   have hnc10 := NB150_149.out
   have hcz11_0 := ce0 BK149
   have hcz11_1 := ce1 BK149
   have hfz11_0 := bfz BK149 0
   have hfz11_1 := bfz BK149 1
   have p154 : 0 ≤ (x4_1 : Int) := of_decide_eq_true zl
   have q154 : x4_1 < (l0_1.length : Int) := of_decide_eq_true zl
   obtain ⟨ad154, A154_1, c154_1, e154, hx154_0, hx154_1, hl154_1, hi154_1⟩ := at_T38 HR0_1.out x4_1 p154 q154
   cases e154
   replace hx154_0 := hcx HB hx154_0
   replace hx154_1 := hcx HB hx154_1
   have HR154_1 := am hi154_1
   have HC154_1 := am hl154_1
   clear hi154_1 hl154_1
   replace p154 := eq_true p154
   replace q154 := eq_true q154
   go_wp2_with (first | ((with_reducible refine gate_callee (f := 92) rfl ?_); refine gl Try.func92 19 #[.agg #[.string ((rd_T38 l0_1 x4_1).f0), .slice A154_1 ((rd_T38 l0_1 x4_1).f1).length c154_1]] rfl rfl rfl ?_; (with_reducible refine (spec_l3Copy.calls ((rd_T38 l0_1 x4_1).f0) _ _ ((rd_T38 l0_1 x4_1).f1) t155 t156 _ ?side1 ?side2 A8.out).mono ?_); (case side1 => exact zc (Kd.C_below HR154_1.out HB.out)); (case side2 => exact HC154_1.out); rintro e w12 ⟨v157, rfl, ho0, hb⟩; refine ⟨_, rfl, ?_⟩; replace HO_3 := am (Kd.S_elder' (zs HO_3) (Kd.R_base ho0) hb); have HO158 := am (Kd.R_lower ho0 (below_size (zb HB))); replace BK149 := am (blk_below (zk BK149) hb); replace BK150 := am (blk_below (zk BK150) hb); replace HB := am (below_step (zb HB) hb); (try clear hb); (try clear hb2); (try clear hk); (try clear hi); (try clear ho0); obtain ⟨Ao14, co14, eo14⟩ := Kd.R_slice HO158.out; subst eo14) | ((with_reducible refine gate_builtin (b := .append) (xs := #[.tmp 13, .tmp 20]) rfl ?_); at_builtin; refine Kd.S_append k38 (w0 := w) w.heap.size rfl (.tmp 13) (.tmp 20) 29 38 (.agg #[(.string ⟨#[]⟩), (.slice none 0 0)]) 40 rfl Try.underlying29 info38 rfl (by decide) (by omega) u3 x3_1 (⟨t155, t156⟩ : S38) [.string t155, .slice Ao14 t156.length co14] (fun _ => True) (fun k_ => some k_ = (.slice Ao14 t156.length co14 : Value).ownBlock) rfl rfl ?aP (fun k_ hk_ => ((Kd.R_mono (ok' := fun k_ => ((fun _ => True)) k_ ∧ some k_ ≠ (u3 : Value).ownBlock) (Kd.R_apart' (HO158.out) (Kd.S_typed HO_3.out) (by decide)) (fun k_ hk => ⟨trivial, hk.2⟩))).1 k_ hk_.symm) ?aF ?aO ?aB ?aS ?aL ?_; (case aP => exact k38_mkM _ _ _ (⟨t155, t156⟩ : S38) (Kd.R_mono (Kd.R_tight rfl (Kd.R_mono (ok' := fun k_ => ((fun _ => True)) k_ ∧ some k_ ≠ (u3 : Value).ownBlock) (Kd.R_apart' (HO158.out) (Kd.S_typed HO_3.out) (by decide)) (fun k_ hk => ⟨trivial, hk.2⟩))) (fun _ h_ => h_))); (case aB => exact (zb HB)); (case aF => exact (fun _ _ => trivial)); (case aO => exact (by (with_reducible repeat (first | apply Kd.S_alloc | apply Kd.S_drewN | apply Kd.S_drew)); exact Kd.S_mono HO_3.out (fun k_ hk => ⟨trivial, fun e_ => hk.2 e_⟩))); (case aS => exact (below_size (zb HB))); (case aL => have := LMc9.out; omega); intro v160 w13 ho hb hg hat; rw [← Ny159.out] at ho; replace BK149 := am (blk_grown (zk BK149) hg (Kd.S_ne HO_3.out BK149.out (by decide))); replace BK150 := am (blk_grown (zk BK150) hg (Kd.S_ne HO_3.out BK150.out (by decide))); replace HB := am (hb); have HO161 := am (ho); clear HO_3 HO158; clear ho hb hg hat))
   go_roundg k1
   case measure => have := HK1.out; omega
   case rel => exact ⟨(y159), (wrap64 (x4_1 + 1)), ze, H', ⟨by have := HK1.out; omega⟩, ⟨zs HO161⟩, ⟨zk BK149⟩, ⟨zk BK150⟩, ⟨zb HB⟩⟩
/-! ### spec_l2Drop: function 96 -/
def spec_l2Drop.f (l0 : List (S55)) (a1 : Int) : Option ((List (S55))) := if 0 ≤ (wrap64 (a1 - 1)) then (if (wrap64 (a1 - 1)) < (l0.length : Int) then ((some (l0.set ((wrap64 (a1 - 1)) : Int).toNat (⟨(rd_T55 l0 (wrap64 (a1 - 1))).f0, wrap64 (((rd_T55 l0 (wrap64 (a1 - 1))).f1) - 1)⟩ : S55) : List (S55))).bind fun y166 => (if ((rd_T55 y166 (wrap64 (a1 - 1))).f1) = 0 then (some (y166.set ((wrap64 (a1 - 1)) : Int).toNat (⟨(⟨#[]⟩ : ByteArray), (rd_T55 y166 (wrap64 (a1 - 1))).f1⟩ : S55))) else (some y166))) else (none)) else (none)
set_option maxHeartbeats 8000000 in
set_option maxRecDepth 100000 in
theorem spec_l2Drop.calls (P0_ : Nat → Prop) (u9000_ : Value) (l0 : List (S55)) (a1 : Int) (r : List (S55)) (w0 w : World) (hB : Below w0.heap.size w0 w) (ho0 : Kd.R k55 55 w w0.heap.size P0_ u9000_ l0) (h : spec_l2Drop.f l0 a1 = some r) :
 Calls Try.prog 96 #[u9000_, .int .i64 a1] w fun e w' => ∃ v0_ : Value, e = .returned (v0_) ∧ Kd.R k55 55 w' w0.heap.size (fun k_ => (P0_ k_ ∨ w.heap.size ≤ k_)) v0_ r ∧ Below w0.heap.size w0 w' ∧ Kept w w' (fun k_ => P0_ k_) := by
 have HO0 := am (show Kd.R k55 55 w w0.heap.size (fun k_ => (P0_ k_ ∨ w.heap.size ≤ k_)) u9000_ l0 from Kd.R_mono ho0 (fun k_ hk => (.inl hk)))
 have HK := am (Kept.refl w (fun k_ => P0_ k_))
 have HW0 := am hB.size
 have HB := am hB
 clear hB
 have H : (if 0 ≤ (wrap64 (a1 - 1)) then (if (wrap64 (a1 - 1)) < (l0.length : Int) then ((some (l0.set ((wrap64 (a1 - 1)) : Int).toNat (⟨(rd_T55 l0 (wrap64 (a1 - 1))).f0, wrap64 (((rd_T55 l0 (wrap64 (a1 - 1))).f1) - 1)⟩ : S55) : List (S55))).bind fun y166 => (if ((rd_T55 y166 (wrap64 (a1 - 1))).f1) = 0 then (some (y166.set ((wrap64 (a1 - 1)) : Int).toNat (⟨(⟨#[]⟩ : ByteArray), (rd_T55 y166 (wrap64 (a1 - 1))).f1⟩ : S55))) else (some y166))) else (none)) else (none)) = some r := h
 clear h
 obtain ⟨ji3, hji3⟩ : ∃ j_ : Int, (wrap64 (a1 - 1)) = j_ := ⟨_, rfl⟩
 replace H : (if 0 ≤ (ji3) then (if (ji3) < (l0.length : Int) then ((some (l0.set ((ji3) : Int).toNat (⟨(rd_T55 l0 (ji3)).f0, wrap64 (((rd_T55 l0 (ji3)).f1) - 1)⟩ : S55) : List (S55))).bind fun y166 => (if ((rd_T55 y166 (ji3)).f1) = 0 then (some (y166.set ((ji3) : Int).toNat (⟨(⟨#[]⟩ : ByteArray), (rd_T55 y166 (ji3)).f1⟩ : S55))) else (some y166))) else (none)) else (none)) = some r := by first | (rw [hji3] at H; exact H) | (simp only [hji3] at H ⊢; exact H)
 have hji3w : (IntKind.i64.wrap (a1 - 1)) = ji3 := (i64_w _).trans hji3
 by_cases c4 : 0 ≤ (ji3)
 rotate_left
 · rw [if_neg c4] at H
   exact absurd H (by simp)
 rw [if_pos c4] at H
 have c4b0 : decide (0 ≤ (ji3)) = true := decide_eq_true c4
 clear c4
 by_cases c5 : (ji3) < (l0.length : Int)
 rotate_left
 · rw [if_neg c5] at H
   exact absurd H (by simp)
 rw [if_pos c5] at H
 have c5b0 : decide ((ji3) < (l0.length : Int)) = true := decide_eq_true c5
 clear c5
 obtain ⟨y166, hy166⟩ : ∃ y_ : List (S55), y_ = (l0.set ((ji3) : Int).toNat (⟨(rd_T55 l0 (ji3)).f0, wrap64 (((rd_T55 l0 (ji3)).f1) - 1)⟩ : S55)) := ⟨_, rfl⟩
 replace H : (if ((rd_T55 y166 (ji3)).f1) = 0 then (some (y166.set ((ji3) : Int).toNat (⟨(⟨#[]⟩ : ByteArray), (rd_T55 y166 (ji3)).f1⟩ : S55))) else (some y166)) = some r := hY hy166 H
 have Ny166 := am hy166
 clear hy166
 by_cases c7 : ((rd_T55 y166 (ji3)).f1) = 0
 rotate_left
 · rw [if_neg c7] at H
   have c7b0 : (((rd_T55 y166 (ji3)).f1) == 0) = false := beq_eq_false_iff_ne.mpr c7
   have c7b1 : (((rd_T55 y166 (ji3)).f1) != 0) = true := bne_iff_ne.mpr c7
   obtain rfl := Option.some.inj H
   obtain ⟨Ao14, co14, eo14⟩ := Kd.R_slice HO0.out
   subst eo14
   have p165 : 0 ≤ ((ji3) : Int) := of_decide_eq_true zl
   have q165 : (ji3) < (l0.length : Int) := of_decide_eq_true zl
   obtain ⟨ad165, e165, hx165_0, hx165_1⟩ := at_T55 (Kd.R_reads' HO0.out).2.2 (ji3) p165 q165
   cases e165
   replace p165 := eq_true p165
   replace q165 := eq_true q165
   have p6 : 0 ≤ ((ji3) : Int) := of_decide_eq_true zl
   have q6 : ((ji3) : Int) < ((l0.length : Int) : Int) := of_decide_eq_true zl
   obtain ⟨go6, co6, eo6, gb6, gl6, cl6, HG6⟩ := Kd.R_form HO0.out (by omega)
   (first | cases eo6 | (injection eo6 with ea_ en_ ec_; (first | subst ea_ | (injection ea_ with ea_; subst ea_)); subst ec_; clear en_))
   have GB6 := am gb6
   have GG6 := am HG6
   clear gb6 gl6 HG6
   have HMgo6 := am (show (P0_ go6 ∨ w.heap.size ≤ go6) from (HO0.out.1 _ rfl))
   (first | simp only [add_plain] at hx165_0 | skip)
   (first | simp only [add_plain] at hx165_1 | skip)
   obtain ⟨ce6, hcl6, hM6, hcc6, hfr6⟩ := Kd.R_elem HO0.out z55 ((ji3) : Int) p6 q6
   obtain rfl := k55_openM hM6
   have hx6_0 : w.cell? ⟨go6, ((ji3) : Int).toNat * 2, none⟩ = some (.string ((rd_T55 l0 (ji3)).f0)) := hcc6 0 _ rfl
   have hx6_1 : w.cell? ⟨go6, ((ji3) : Int).toNat * 2 + 1, none⟩ = some (.int .i64 ((rd_T55 l0 (ji3)).f1)) := hcc6 1 _ rfl
   have hf6_0 : w.frozen? ⟨go6, ((ji3) : Int).toNat * 2, none⟩ = false := hfr6 0
   have hf6_1 : w.frozen? ⟨go6, ((ji3) : Int).toNat * 2 + 1, none⟩ = false := hfr6 1
   clear hcl6 hcc6 hfr6 hM6
   replace p6 := eq_true p6
   replace q6 := eq_true q6
   have HX15 := am (show Kd.R k55 55 w w0.heap.size (fun k_ => (P0_ k_ ∨ w.heap.size ≤ k_)) (.slice (some ⟨go6, 0, none⟩) l0.length co14) l0 from (zr HO0))
   obtain ⟨ce15, hcl15, hM15, hcc15, hfr15⟩ := Kd.R_elem HX15.out z55 ((ji3) : Int) (of_decide_eq_true zl) (by have h_ : ((ji3) : Int) < ((l0.length : Int) : Int) := of_decide_eq_true zl; first | exact h_ | (have e_ := (Kd.R_reads' HO0.out).1; omega) | simpa using h_)
   obtain rfl := k55_openM hM15
   have HP15 := Kd.R_seg HX15.out ((ji3) : Int) (of_decide_eq_true zl) (by have h_ : ((ji3) : Int) < ((l0.length : Int) : Int) := of_decide_eq_true zl; first | exact h_ | (have e_ := (Kd.R_reads' HO0.out).1; omega) | simpa using h_) (seg := [.int .i64 (wrap64 (((rd_T55 l0 (ji3)).f1) - 1))]) (j := 1) hcl15 hcc15 (show 2 ≤ 2 from by decide) (x' := (⟨(rd_T55 l0 (ji3)).f0, wrap64 (((rd_T55 l0 (ji3)).f1) - 1)⟩ : S55)) (k55_mkM _ _ _ (⟨(rd_T55 l0 (ji3)).f0, wrap64 (((rd_T55 l0 (ji3)).f1) - 1)⟩ : S55) ) (fun _ hk => hk)
   have hx15_1 := hcc15 1 _ rfl
   (try simp only [show (k55).sz = 2 from rfl, Nat.mul_one, Nat.add_zero] at hx15_1)
   have hf15_1 := hfr15 1
   (try simp only [show (k55).sz = 2 from rfl, Nat.mul_one, Nat.add_zero] at hf15_1)
   clear hcl15 hcc15 hfr15 hM15
   go_enter Try.func96, Try.ntmps96
   go_wp2_with (first | ((with_reducible refine gate_store (t := 3) (p := 16) rfl ?_); refine store_event (t := 3) (p := 16) (v := ?vo_w16) (w1 := (w.setCell ⟨go6, ((ji3) : Int).toNat * 2 + 1, none⟩ (.int .i64 (wrap64 (((rd_T55 l0 (ji3)).f1) - 1))))) ?hg ?ho ?hn ?hr ?_; (case ho => rfl); (case hg => rfl); (case hn => rfl); (case hr => first | (go_simp; done) | (go_simp; rfl)); intro w16 hw; have hg : w.grownBy w16 (some go6) := (by rw [hw]; exact HP15.2); have hp_ : Kd.R k55 55 w16 w0.heap.size (fun k_ => (P0_ k_ ∨ w.heap.size ≤ k_)) (.slice (some ⟨go6, 0, none⟩) l0.length co14) y166 := (by rw [hw, Ny166.out]; exact HP15.1); clear HP15; replace HB := am ((by rw [hw]; exact below_set (HB.out) GB6.out : Below w0.heap.size w0 w16)); replace HK := am (Kept.of_grown (S := (fun k_ => P0_ k_)) hg (zq HK) (fun k_ e_ => (HO0.out.1 k_ e_))); replace HO0 := am (hp_); clear hg hw hp_; have p167 : 0 ≤ ((ji3) : Int) := of_decide_eq_true zl; have q167 : (ji3) < (y166.length : Int) := (by have h_ : ((ji3) : Int) < ((l0.length : Int) : Int) := of_decide_eq_true zl; first | (have e_ := (Kd.R_reads' HO0.out).1; omega) | simpa only [Ny166.out, List.length_set] using h_); have ql167 : (((ji3) : Int) < ((l0.length : Int) : Int)) = True := eq_true (of_decide_eq_true zl); obtain ⟨ad167, e167, hx167_0, hx167_1⟩ := at_T55 (Kd.R_reads' HO0.out).2.2 (ji3) p167 q167; obtain rfl : (⟨go6, 0, none⟩ : Addr) = ad167 := (by injection e167); (first | simp only [add_plain] at hx167_0 | simp only [add_at] at hx167_0 | simp only [Addr.add, Nat.zero_add] at hx167_0 | skip); (first | simp only [add_plain] at hx167_1 | simp only [add_at] at hx167_1 | simp only [Addr.add, Nat.zero_add] at hx167_1 | skip); replace p167 := eq_true p167; replace q167 := eq_true q167))
   go_ret
   exact ⟨_, by first | rfl | (simp [errW_none, errW_some] <;> rfl) | (simp only [← hji3]; first | rfl | (simp [errW_none, errW_some] <;> rfl)) | (simp [*, errW_none, errW_some] <;> rfl), (zr HO0), (zb HB), (zq HK)⟩
 rw [if_pos c7] at H
 have c7b0 : (((rd_T55 y166 (ji3)).f1) == 0) = true := beq_iff_eq.mpr c7
 have c7b1 : (((rd_T55 y166 (ji3)).f1) != 0) = false := bne_eq_false_iff_eq.mpr c7
 clear c7
 obtain ⟨y168, hy168⟩ : ∃ y_ : List (S55), y_ = (y166.set ((ji3) : Int).toNat (⟨(⟨#[]⟩ : ByteArray), (rd_T55 y166 (ji3)).f1⟩ : S55)) := ⟨_, rfl⟩
 replace H : (some y168) = some r := hY hy168 H
 have Ny168 := am hy168
 clear hy168
 obtain rfl := Option.some.inj H
 obtain ⟨Ao9, co9, eo9⟩ := Kd.R_slice HO0.out
 subst eo9
 have p165 : 0 ≤ ((ji3) : Int) := of_decide_eq_true zl
 have q165 : (ji3) < (l0.length : Int) := of_decide_eq_true zl
 obtain ⟨ad165, e165, hx165_0, hx165_1⟩ := at_T55 (Kd.R_reads' HO0.out).2.2 (ji3) p165 q165
 cases e165
 replace p165 := eq_true p165
 replace q165 := eq_true q165
 have p6 : 0 ≤ ((ji3) : Int) := of_decide_eq_true zl
 have q6 : ((ji3) : Int) < ((l0.length : Int) : Int) := of_decide_eq_true zl
 obtain ⟨go6, co6, eo6, gb6, gl6, cl6, HG6⟩ := Kd.R_form HO0.out (by omega)
 (first | cases eo6 | (injection eo6 with ea_ en_ ec_; (first | subst ea_ | (injection ea_ with ea_; subst ea_)); subst ec_; clear en_))
 have GB6 := am gb6
 have GG6 := am HG6
 clear gb6 gl6 HG6
 have HMgo6 := am (show (P0_ go6 ∨ w.heap.size ≤ go6) from (HO0.out.1 _ rfl))
 (first | simp only [add_plain] at hx165_0 | skip)
 (first | simp only [add_plain] at hx165_1 | skip)
 obtain ⟨ce6, hcl6, hM6, hcc6, hfr6⟩ := Kd.R_elem HO0.out z55 ((ji3) : Int) p6 q6
 obtain rfl := k55_openM hM6
 have hx6_0 : w.cell? ⟨go6, ((ji3) : Int).toNat * 2, none⟩ = some (.string ((rd_T55 l0 (ji3)).f0)) := hcc6 0 _ rfl
 have hx6_1 : w.cell? ⟨go6, ((ji3) : Int).toNat * 2 + 1, none⟩ = some (.int .i64 ((rd_T55 l0 (ji3)).f1)) := hcc6 1 _ rfl
 have hf6_0 : w.frozen? ⟨go6, ((ji3) : Int).toNat * 2, none⟩ = false := hfr6 0
 have hf6_1 : w.frozen? ⟨go6, ((ji3) : Int).toNat * 2 + 1, none⟩ = false := hfr6 1
 clear hcl6 hcc6 hfr6 hM6
 replace p6 := eq_true p6
 replace q6 := eq_true q6
 have HX10 := am (show Kd.R k55 55 w w0.heap.size (fun k_ => (P0_ k_ ∨ w.heap.size ≤ k_)) (.slice (some ⟨go6, 0, none⟩) l0.length co9) l0 from (zr HO0))
 obtain ⟨ce10, hcl10, hM10, hcc10, hfr10⟩ := Kd.R_elem HX10.out z55 ((ji3) : Int) (of_decide_eq_true zl) (by have h_ : ((ji3) : Int) < ((l0.length : Int) : Int) := of_decide_eq_true zl; first | exact h_ | (have e_ := (Kd.R_reads' HO0.out).1; omega) | simpa using h_)
 obtain rfl := k55_openM hM10
 have HP10 := Kd.R_seg HX10.out ((ji3) : Int) (of_decide_eq_true zl) (by have h_ : ((ji3) : Int) < ((l0.length : Int) : Int) := of_decide_eq_true zl; first | exact h_ | (have e_ := (Kd.R_reads' HO0.out).1; omega) | simpa using h_) (seg := [.int .i64 (wrap64 (((rd_T55 l0 (ji3)).f1) - 1))]) (j := 1) hcl10 hcc10 (show 2 ≤ 2 from by decide) (x' := (⟨(rd_T55 l0 (ji3)).f0, wrap64 (((rd_T55 l0 (ji3)).f1) - 1)⟩ : S55)) (k55_mkM _ _ _ (⟨(rd_T55 l0 (ji3)).f0, wrap64 (((rd_T55 l0 (ji3)).f1) - 1)⟩ : S55) ) (fun _ hk => hk)
 have hx10_1 := hcc10 1 _ rfl
 (try simp only [show (k55).sz = 2 from rfl, Nat.mul_one, Nat.add_zero] at hx10_1)
 have hf10_1 := hfr10 1
 (try simp only [show (k55).sz = 2 from rfl, Nat.mul_one, Nat.add_zero] at hf10_1)
 clear hcl10 hcc10 hfr10 hM10
 go_enter Try.func96, Try.ntmps96
 go_wp2_with (first | ((with_reducible refine gate_store (t := 3) (p := 16) rfl ?_); refine store_event (t := 3) (p := 16) (v := ?vo_w11) (w1 := (w.setCell ⟨go6, ((ji3) : Int).toNat * 2 + 1, none⟩ (.int .i64 (wrap64 (((rd_T55 l0 (ji3)).f1) - 1))))) ?hg ?ho ?hn ?hr ?_; (case ho => rfl); (case hg => rfl); (case hn => rfl); (case hr => first | (go_simp; done) | (go_simp; rfl)); intro w11 hw; have hg : w.grownBy w11 (some go6) := (by rw [hw]; exact HP10.2); have hp_ : Kd.R k55 55 w11 w0.heap.size (fun k_ => (P0_ k_ ∨ w.heap.size ≤ k_)) (.slice (some ⟨go6, 0, none⟩) l0.length co9) y166 := (by rw [hw, Ny166.out]; exact HP10.1); clear HP10; replace HB := am ((by rw [hw]; exact below_set (HB.out) GB6.out : Below w0.heap.size w0 w11)); replace HK := am (Kept.of_grown (S := (fun k_ => P0_ k_)) hg (zq HK) (fun k_ e_ => (HO0.out.1 k_ e_))); replace HO0 := am (hp_); clear hg hw hp_; have p167 : 0 ≤ ((ji3) : Int) := of_decide_eq_true zl; have q167 : (ji3) < (y166.length : Int) := (by have h_ : ((ji3) : Int) < ((l0.length : Int) : Int) := of_decide_eq_true zl; first | (have e_ := (Kd.R_reads' HO0.out).1; omega) | simpa only [Ny166.out, List.length_set] using h_); have ql167 : (((ji3) : Int) < ((l0.length : Int) : Int)) = True := eq_true (of_decide_eq_true zl); obtain ⟨ad167, e167, hx167_0, hx167_1⟩ := at_T55 (Kd.R_reads' HO0.out).2.2 (ji3) p167 q167; obtain rfl : (⟨go6, 0, none⟩ : Addr) = ad167 := (by injection e167); (first | simp only [add_plain] at hx167_0 | simp only [add_at] at hx167_0 | simp only [Addr.add, Nat.zero_add] at hx167_0 | skip); (first | simp only [add_plain] at hx167_1 | simp only [add_at] at hx167_1 | simp only [Addr.add, Nat.zero_add] at hx167_1 | skip); replace p167 := eq_true p167; replace q167 := eq_true q167; have p8 : 0 ≤ ((ji3) : Int) := of_decide_eq_true zl; have q8 : ((ji3) : Int) < ((l0.length : Int) : Int) := of_decide_eq_true zl; obtain ⟨ce8, hcl8, hM8, hcc8, hfr8⟩ := Kd.R_elem HO0.out z55 ((ji3) : Int) p8 q8; obtain rfl := k55_openM hM8; have hx8_0 : w11.cell? ⟨go6, ((ji3) : Int).toNat * 2, none⟩ = some (.string ((rd_T55 y166 (ji3)).f0)) := hcc8 0 _ rfl; have hx8_1 : w11.cell? ⟨go6, ((ji3) : Int).toNat * 2 + 1, none⟩ = some (.int .i64 ((rd_T55 y166 (ji3)).f1)) := hcc8 1 _ rfl; have hf8_0 : w11.frozen? ⟨go6, ((ji3) : Int).toNat * 2, none⟩ = false := hfr8 0; have hf8_1 : w11.frozen? ⟨go6, ((ji3) : Int).toNat * 2 + 1, none⟩ = false := hfr8 1; clear hcl8 hcc8 hfr8 hM8; replace p8 := eq_true p8; replace q8 := eq_true q8; have HX12 := am (show Kd.R k55 55 w11 w0.heap.size (fun k_ => (P0_ k_ ∨ w.heap.size ≤ k_)) (.slice (some ⟨go6, 0, none⟩) l0.length co9) y166 from (zr HO0)); obtain ⟨ce12, hcl12, hM12, hcc12, hfr12⟩ := Kd.R_elem HX12.out z55 ((ji3) : Int) (of_decide_eq_true zl) (by have h_ : ((ji3) : Int) < ((l0.length : Int) : Int) := of_decide_eq_true zl; first | exact h_ | (have e_ := (Kd.R_reads' HO0.out).1; omega) | simpa using h_); obtain rfl := k55_openM hM12; have HP12 := Kd.R_seg HX12.out ((ji3) : Int) (of_decide_eq_true zl) (by have h_ : ((ji3) : Int) < ((l0.length : Int) : Int) := of_decide_eq_true zl; first | exact h_ | (have e_ := (Kd.R_reads' HO0.out).1; omega) | simpa using h_) (seg := [.string (⟨#[]⟩ : ByteArray)]) (j := 0) hcl12 hcc12 (show 1 ≤ 2 from by decide) (x' := (⟨(⟨#[]⟩ : ByteArray), (rd_T55 y166 (ji3)).f1⟩ : S55)) (k55_mkM _ _ _ (⟨(⟨#[]⟩ : ByteArray), (rd_T55 y166 (ji3)).f1⟩ : S55) ) (fun _ hk => hk); have hx12_0 := hcc12 0 _ rfl; (try simp only [show (k55).sz = 2 from rfl, Nat.mul_one, Nat.add_zero] at hx12_0); have hf12_0 := hfr12 0; (try simp only [show (k55).sz = 2 from rfl, Nat.mul_one, Nat.add_zero] at hf12_0); clear hcl12 hcc12 hfr12 hM12) | ((with_reducible refine gate_store (t := 9) (p := 28) rfl ?_); refine store_event (t := 9) (p := 28) (v := ?vo_w13) (w1 := (w11.setCell ⟨go6, ((ji3) : Int).toNat * 2, none⟩ (.string (⟨#[]⟩ : ByteArray)))) ?hg ?ho ?hn ?hr ?_; (case ho => rfl); (case hg => rfl); (case hn => rfl); (case hr => first | (go_simp; done) | (go_simp; rfl)); intro w13 hw; have hg : w11.grownBy w13 (some go6) := (by rw [hw]; exact HP12.2); have hp_ : Kd.R k55 55 w13 w0.heap.size (fun k_ => (P0_ k_ ∨ w.heap.size ≤ k_)) (.slice (some ⟨go6, 0, none⟩) l0.length co9) y168 := (by rw [hw, Ny168.out]; exact HP12.1); clear HP12; replace HB := am ((by rw [hw]; exact below_set (HB.out) GB6.out : Below w0.heap.size w0 w13)); replace HK := am (Kept.of_grown (S := (fun k_ => P0_ k_)) hg (zq HK) (fun k_ e_ => (HO0.out.1 k_ e_))); replace HO0 := am (hp_); clear hg hw hp_))
 go_ret
 exact ⟨_, by first | rfl | (simp [errW_none, errW_some] <;> rfl) | (simp only [← hji3]; first | rfl | (simp [errW_none, errW_some] <;> rfl)) | (simp [*, errW_none, errW_some] <;> rfl), (zr HO0), (zb HB), (zq HK)⟩
/-! ### spec_l1Place: function 99 -/
def spec_l1Place.l0 : Nat → ByteArray → Int → Int → Option (Int)
 | 0, _, _, _ => none
 | k + 1, x0, x3, x4 => if x4 < (x0.size : Int) then (if 0 ≤ x4 then (spec_l1Place.l0 k x0 (wrap64 (x3 + (wrap64 ((wrap64 (x4 + 1)) * ((((bt x0 x4) - 97) % 256) + 1))))) (wrap64 (x4 + 1))) else (none)) else (some (wrap64 ((Int.tmod x3 8) + 1)))
def spec_l1Place.f (k : Nat) (a0 : ByteArray) : Option (Int) := spec_l1Place.l0 k a0 0 0
theorem spec_l1Place.mono_l : ∀ k, (∀ y0 y1 y2, LeO (spec_l1Place.l0 k y0 y1 y2) (spec_l1Place.l0 (k + 1) y0 y1 y2))
 | 0 => fun _ _ _ r h => by simp [spec_l1Place.l0] at h
 | k + 1 => by
  have ih0 := spec_l1Place.mono_l k
  intro y0 y1 y2
  unfold spec_l1Place.l0
  exact mo1 ih0
theorem spec_l1Place.mono : ∀ a0 k, LeO (spec_l1Place.f k a0) (spec_l1Place.f (k + 1) a0) := by
 intro a0 k
 have ih0 := spec_l1Place.mono_l k
 unfold spec_l1Place.f
 exact mo1 ih0
set_option maxHeartbeats 8000000 in
set_option maxRecDepth 100000 in
theorem spec_l1Place.calls (k : Nat) (a0 : ByteArray) (r : Int) (w : World) (h : spec_l1Place.f k a0 = some r) :
 Calls Try.prog 99 #[.string a0] w fun e w' => e = .returned (.int .i64 r) ∧ Drawn0 w w' := by
 have H : (spec_l1Place.l0 k a0 0 0) = some r := h
 clear h
 have H' := am H
 clear H
 go_enter Try.func99, Try.ntmps99
 go_wp2
 go_loopg [3, 4] k (fun kq v3 v4 w' => ∃ (x3_1 : Int) (x4_1 : Int), v3 = .int .i64 x3_1 ∧ v4 = .int .i64 x4_1 ∧ Aside0 (spec_l1Place.l0 kq a0 x3_1 x4_1 = some r) ∧ Aside0 (kq ≤ k) ∧ Drawn0 w w')
 case atStart => exact ⟨(0), (0), ze, ze, H', ⟨Nat.le_refl _⟩, by repeat (first | exact Drawn0.refl _ | apply Drawn0.step)⟩
 case round =>
  clear H'
  obtain ⟨x3_1, x4_1, rfl, rfl, HA, HK1, ⟨m1, rfl⟩⟩ := hrel
  cases gk with
  | zero => exact absurd HA.out (by simp [spec_l1Place.l0])
  | succ k1 =>
   have H := HA.out
   clear HA
   simp only [spec_l1Place.l0] at H
   by_cases c2 : x4_1 < (a0.size : Int)
   rotate_left
   · rw [if_neg c2] at H
     have c2b0 : decide (x4_1 < (a0.size : Int)) = false := decide_eq_false c2
     clear c2
     obtain rfl := Option.some.inj H
     go_wp2
     go_ret
     exact ⟨by first | rfl | (simp; done) | (simp [*]; done), by repeat (first | exact Drawn0.refl _ | apply Drawn0.step)⟩
   rw [if_pos c2] at H
   have c2b0 : decide (x4_1 < (a0.size : Int)) = true := decide_eq_true c2
   clear c2
   by_cases c3 : 0 ≤ x4_1
   rotate_left
   · rw [if_neg c3] at H
     exact absurd H (by simp)
   rw [if_pos c3] at H
   have c3b0 : decide (0 ≤ x4_1) = true := decide_eq_true c3
   clear c3
   have H' := am H
   clear H
   have p4 : 0 ≤ (x4_1 : Int) := of_decide_eq_true zl
   have q4 : x4_1 < (a0.size : Int) := of_decide_eq_true zl
   have hx4 := bt_at a0 x4_1
   replace p4 := eq_true p4
   replace q4 := eq_true q4
   go_wp2
   go_roundg k1
   case measure => have := HK1.out; omega
   case rel => exact ⟨(wrap64 (x3_1 + (wrap64 ((wrap64 (x4_1 + 1)) * ((((bt a0 x4_1) - 97) % 256) + 1))))), (wrap64 (x4_1 + 1)), ze, ze, H', ⟨by have := HK1.out; omega⟩, by repeat (first | exact Drawn0.refl _ | apply Drawn0.step)⟩
/-! ### spec_l1Next: function 100 -/
def spec_l1Next.f (a0 : Int) : Option (Int) := some (wrap64 ((Int.tmod a0 8) + 1))
set_option maxHeartbeats 8000000 in
set_option maxRecDepth 100000 in
theorem spec_l1Next.calls (a0 : Int) (r : Int) (w : World) (h : spec_l1Next.f a0 = some r) :
 Calls Try.prog 100 #[.int .i64 a0] w fun e w' => e = .returned (.int .i64 r) ∧ Drawn0 w w' := by
 have H : (some (wrap64 ((Int.tmod a0 8) + 1))) = some r := h
 clear h
 obtain rfl := Option.some.inj H
 go_enter Try.func100, Try.ntmps100
 go_wp2
 go_ret
 exact ⟨by first | rfl | (simp; done) | (simp [*]; done), by repeat (first | exact Drawn0.refl _ | apply Drawn0.step)⟩
/-! ### spec_l2Find: function 98 -/
def spec_l2Find.l0 : Nat → List (S55) → ByteArray → Int → Int → Int → Option (Int × Bool)
 | 0, _, _, _, _, _ => none
 | k + 1, x0, x1, x6, x7, x8 => if x8 < 8 then (if 0 ≤ (wrap64 (x6 - 1)) then (if (wrap64 (x6 - 1)) < (x0.length : Int) then (if ((rd_T55 x0 (wrap64 (x6 - 1))).f0).toList = x1.toList then (some (x6, true)) else (if ((rd_T55 x0 (wrap64 (x6 - 1))).f1) = 0 then (if x7 = 0 then ((spec_l1Next.f x6).bind fun t172 => (spec_l2Find.l0 k x0 x1 t172 x6 (wrap64 (x8 + 1)))) else ((spec_l1Next.f x6).bind fun t173 => (spec_l2Find.l0 k x0 x1 t173 x7 (wrap64 (x8 + 1))))) else ((spec_l1Next.f x6).bind fun t174 => (spec_l2Find.l0 k x0 x1 t174 x7 (wrap64 (x8 + 1)))))) else (none)) else (none)) else (some (x7, false))
def spec_l2Find.f (k : Nat) (l0 : List (S55)) (a1 : ByteArray) : Option (Int × Bool) := (spec_l1Place.f k a1).bind fun t169 => (spec_l2Find.l0 k l0 a1 t169 0 0)
theorem spec_l2Find.mono_l : ∀ k, (∀ y0 y1 y2 y3 y4, LeO (spec_l2Find.l0 k y0 y1 y2 y3 y4) (spec_l2Find.l0 (k + 1) y0 y1 y2 y3 y4))
 | 0 => fun _ _ _ _ _ r h => by simp [spec_l2Find.l0] at h
 | k + 1 => by
  have ih0 := spec_l2Find.mono_l k
  intro y0 y1 y2 y3 y4
  unfold spec_l2Find.l0
  exact mo2 ih0 @spec_l1Place.mono
theorem spec_l2Find.mono : ∀ a0 a1 k, LeO (spec_l2Find.f k a0 a1) (spec_l2Find.f (k + 1) a0 a1) := by
 intro a0 a1 k
 have ih0 := spec_l2Find.mono_l k
 unfold spec_l2Find.f
 exact mo2 ih0 @spec_l1Place.mono
set_option maxHeartbeats 8000000 in
set_option maxRecDepth 100000 in
theorem spec_l2Find.calls (k : Nat) (A0 : Option Addr) (c0 : Nat) (l0 : List (S55)) (a1 : ByteArray) (r1 : Int) (r2 : Bool) (w : World) (hr0 : Kd.C k55 w A0 l0.length l0) (hc0 : l0.length ≤ c0) (h : spec_l2Find.f k l0 a1 = some (r1, r2)) :
 Calls Try.prog 98 #[.slice A0 l0.length c0, .string a1] w fun e w' => e = .returned (.tuple #[.int .i64 r1, .bool r2]) ∧ Drawn0 w w' := by
 have HR0 := am hr0
 have HC0 := am hc0
 clear hr0 hc0
 have H : ((spec_l1Place.f k a1).bind fun t169 => (spec_l2Find.l0 k l0 a1 t169 0 0)) = some (r1, r2) := h
 clear h
 replace H := obs H
 obtain ⟨t169, A30, H⟩ := H
 replace H : (spec_l2Find.l0 k l0 a1 t169 0 0) = some (r1, r2) := H
 have A3 := am A30
 clear A30
 have H' := am H
 clear H
 go_enter Try.func98, Try.ntmps98
 go_wp2_with (first | ((with_reducible refine gate_callee (f := 99) rfl ?_); refine gl Try.func99 10 #[.string a1] rfl rfl rfl ?_; (with_reducible refine (spec_l1Place.calls k a1 t169 _ A3.out).mono ?_); rintro e w' ⟨rfl, ⟨nd, rfl⟩⟩; refine ⟨_, rfl, ?_⟩))
 go_loopg [6, 7, 8] k (fun kq v6 v7 v8 w' => ∃ (x6_1 : Int) (x7_1 : Int) (x8_1 : Int), v6 = .int .i64 x6_1 ∧ v7 = .int .i64 x7_1 ∧ v8 = .int .i64 x8_1 ∧ Aside0 (spec_l2Find.l0 kq l0 a1 x6_1 x7_1 x8_1 = some (r1, r2)) ∧ Aside0 (kq ≤ k) ∧ Drawn0 w w')
 case atStart => exact ⟨(t169), (0), (0), ze, ze, ze, H', ⟨Nat.le_refl _⟩, by repeat (first | exact Drawn0.refl _ | apply Drawn0.step)⟩
 case round =>
  clear H'
  try clear p2
  obtain ⟨x6_1, x7_1, x8_1, rfl, rfl, rfl, HA, HK1, ⟨m1, rfl⟩⟩ := hrel
  cases gk with
  | zero => exact absurd HA.out (by simp [spec_l2Find.l0])
  | succ k1 =>
   have H := HA.out
   clear HA
   simp only [spec_l2Find.l0] at H
   by_cases c4 : x8_1 < 8
   rotate_left
   · rw [if_neg c4] at H
     have c4b0 : decide (x8_1 < 8) = false := decide_eq_false c4
     clear c4
     simp only [Option.some.injEq, Prod.mk.injEq] at H
     obtain ⟨rfl, rfl⟩ := H
     go_wp2
     go_ret2
     exact ⟨by first | rfl | (simp; done) | (simp [*]; done), by repeat (first | exact Drawn0.refl _ | apply Drawn0.step)⟩
   rw [if_pos c4] at H
   have c4b0 : decide (x8_1 < 8) = true := decide_eq_true c4
   clear c4
   obtain ⟨ji5, hji5⟩ : ∃ j_ : Int, (wrap64 (x6_1 - 1)) = j_ := ⟨_, rfl⟩
   replace H : (if 0 ≤ (ji5) then (if (ji5) < (l0.length : Int) then (if ((rd_T55 l0 (ji5)).f0).toList = a1.toList then (some (x6_1, true)) else (if ((rd_T55 l0 (ji5)).f1) = 0 then (if x7_1 = 0 then ((spec_l1Next.f x6_1).bind fun t172 => (spec_l2Find.l0 k1 l0 a1 t172 x6_1 (wrap64 (x8_1 + 1)))) else ((spec_l1Next.f x6_1).bind fun t173 => (spec_l2Find.l0 k1 l0 a1 t173 x7_1 (wrap64 (x8_1 + 1))))) else ((spec_l1Next.f x6_1).bind fun t174 => (spec_l2Find.l0 k1 l0 a1 t174 x7_1 (wrap64 (x8_1 + 1)))))) else (none)) else (none)) = some (r1, r2) := by first | (rw [hji5] at H; exact H) | (simp only [hji5] at H ⊢; exact H)
   have hji5w : (IntKind.i64.wrap (x6_1 - 1)) = ji5 := (i64_w _).trans hji5
   by_cases c6 : 0 ≤ (ji5)
   rotate_left
   · rw [if_neg c6] at H
     exact absurd H (by simp)
   rw [if_pos c6] at H
   have c6b0 : decide (0 ≤ (ji5)) = true := decide_eq_true c6
   clear c6
   by_cases c7 : (ji5) < (l0.length : Int)
   rotate_left
   · rw [if_neg c7] at H
     exact absurd H (by simp)
   rw [if_pos c7] at H
   have c7b0 : decide ((ji5) < (l0.length : Int)) = true := decide_eq_true c7
   clear c7
   by_cases c8 : ((rd_T55 l0 (ji5)).f0).toList = a1.toList
   · rw [if_pos c8] at H
     have c8b0 : (((rd_T55 l0 (ji5)).f0).toList == a1.toList) = true := beq_iff_eq.mpr c8
     have c8b1 : (((rd_T55 l0 (ji5)).f0).toList != a1.toList) = false := bne_eq_false_iff_eq.mpr c8
     clear c8
     simp only [Option.some.injEq, Prod.mk.injEq] at H
     obtain ⟨rfl, rfl⟩ := H
     have p170 : 0 ≤ ((ji5) : Int) := of_decide_eq_true zl
     have q170 : (ji5) < (l0.length : Int) := of_decide_eq_true zl
     obtain ⟨ad170, e170, hx170_0, hx170_1⟩ := at_T55 HR0.out (ji5) p170 q170
     cases e170
     replace p170 := eq_true p170
     replace q170 := eq_true q170
     go_wp2
     go_ret2
     exact ⟨by first | rfl | (simp; done) | (simp only [← hji5] <;> (first | rfl | simp)) | (simp [*]; done), by repeat (first | exact Drawn0.refl _ | apply Drawn0.step)⟩
   rw [if_neg c8] at H
   have c8b0 : (((rd_T55 l0 (ji5)).f0).toList == a1.toList) = false := beq_eq_false_iff_ne.mpr c8
   have c8b1 : (((rd_T55 l0 (ji5)).f0).toList != a1.toList) = true := bne_iff_ne.mpr c8
   by_cases c9 : ((rd_T55 l0 (ji5)).f1) = 0
   rotate_left
   · rw [if_neg c9] at H
     have c9b0 : (((rd_T55 l0 (ji5)).f1) == 0) = false := beq_eq_false_iff_ne.mpr c9
     have c9b1 : (((rd_T55 l0 (ji5)).f1) != 0) = true := bne_iff_ne.mpr c9
     replace H := obs H
     obtain ⟨t174, A130, H⟩ := H
     replace H : (spec_l2Find.l0 k1 l0 a1 t174 x7_1 (wrap64 (x8_1 + 1))) = some (r1, r2) := H
     have A13 := am A130
     clear A130
     have H' := am H
     clear H
     have p170 : 0 ≤ ((ji5) : Int) := of_decide_eq_true zl
     have q170 : (ji5) < (l0.length : Int) := of_decide_eq_true zl
     obtain ⟨ad170, e170, hx170_0, hx170_1⟩ := at_T55 HR0.out (ji5) p170 q170
     cases e170
     replace p170 := eq_true p170
     replace q170 := eq_true q170
     have p171 : 0 ≤ ((ji5) : Int) := of_decide_eq_true zl
     have q171 : (ji5) < (l0.length : Int) := of_decide_eq_true zl
     obtain ⟨ad171, e171, hx171_0, hx171_1⟩ := at_T55 HR0.out (ji5) p171 q171
     obtain rfl : ad170 = ad171 := (by injection e171)
     replace p171 := eq_true p171
     replace q171 := eq_true q171
     go_wp2_with (first | ((with_reducible refine gate_callee (f := 100) rfl ?_); refine gl Try.func100 37 #[.int .i64 x6_1] rfl rfl rfl ?_; (with_reducible refine (spec_l1Next.calls x6_1 t174 _ A13.out).mono ?_); rintro e w' ⟨rfl, ⟨nd, rfl⟩⟩; refine ⟨_, rfl, ?_⟩))
     go_roundg k1
     case measure => have := HK1.out; omega
     case rel => exact ⟨(t174), (x7_1), (wrap64 (x8_1 + 1)), ze, ze, ze, H', ⟨by have := HK1.out; omega⟩, by repeat (first | exact Drawn0.refl _ | apply Drawn0.step)⟩
   rw [if_pos c9] at H
   have c9b0 : (((rd_T55 l0 (ji5)).f1) == 0) = true := beq_iff_eq.mpr c9
   have c9b1 : (((rd_T55 l0 (ji5)).f1) != 0) = false := bne_eq_false_iff_eq.mpr c9
   clear c9
   by_cases c10 : x7_1 = 0
   · rw [if_pos c10] at H
     have c10b0 : (x7_1 == 0) = true := beq_iff_eq.mpr c10
     have c10b1 : (x7_1 != 0) = false := bne_eq_false_iff_eq.mpr c10
     clear c10
     replace H := obs H
     obtain ⟨t172, A110, H⟩ := H
     replace H : (spec_l2Find.l0 k1 l0 a1 t172 x6_1 (wrap64 (x8_1 + 1))) = some (r1, r2) := H
     have A11 := am A110
     clear A110
     have H' := am H
     clear H
     have p170 : 0 ≤ ((ji5) : Int) := of_decide_eq_true zl
     have q170 : (ji5) < (l0.length : Int) := of_decide_eq_true zl
     obtain ⟨ad170, e170, hx170_0, hx170_1⟩ := at_T55 HR0.out (ji5) p170 q170
     cases e170
     replace p170 := eq_true p170
     replace q170 := eq_true q170
     have p171 : 0 ≤ ((ji5) : Int) := of_decide_eq_true zl
     have q171 : (ji5) < (l0.length : Int) := of_decide_eq_true zl
     obtain ⟨ad171, e171, hx171_0, hx171_1⟩ := at_T55 HR0.out (ji5) p171 q171
     obtain rfl : ad170 = ad171 := (by injection e171)
     replace p171 := eq_true p171
     replace q171 := eq_true q171
     go_wp2_with (first | ((with_reducible refine gate_callee (f := 100) rfl ?_); refine gl Try.func100 37 #[.int .i64 x6_1] rfl rfl rfl ?_; (with_reducible refine (spec_l1Next.calls x6_1 t172 _ A11.out).mono ?_); rintro e w' ⟨rfl, ⟨nd, rfl⟩⟩; refine ⟨_, rfl, ?_⟩))
     go_roundg k1
     case measure => have := HK1.out; omega
     case rel => exact ⟨(t172), (x6_1), (wrap64 (x8_1 + 1)), ze, ze, ze, H', ⟨by have := HK1.out; omega⟩, by repeat (first | exact Drawn0.refl _ | apply Drawn0.step)⟩
   rw [if_neg c10] at H
   have c10b0 : (x7_1 == 0) = false := beq_eq_false_iff_ne.mpr c10
   have c10b1 : (x7_1 != 0) = true := bne_iff_ne.mpr c10
   replace H := obs H
   obtain ⟨t173, A120, H⟩ := H
   replace H : (spec_l2Find.l0 k1 l0 a1 t173 x7_1 (wrap64 (x8_1 + 1))) = some (r1, r2) := H
   have A12 := am A120
   clear A120
   have H' := am H
   clear H
   have p170 : 0 ≤ ((ji5) : Int) := of_decide_eq_true zl
   have q170 : (ji5) < (l0.length : Int) := of_decide_eq_true zl
   obtain ⟨ad170, e170, hx170_0, hx170_1⟩ := at_T55 HR0.out (ji5) p170 q170
   cases e170
   replace p170 := eq_true p170
   replace q170 := eq_true q170
   have p171 : 0 ≤ ((ji5) : Int) := of_decide_eq_true zl
   have q171 : (ji5) < (l0.length : Int) := of_decide_eq_true zl
   obtain ⟨ad171, e171, hx171_0, hx171_1⟩ := at_T55 HR0.out (ji5) p171 q171
   obtain rfl : ad170 = ad171 := (by injection e171)
   replace p171 := eq_true p171
   replace q171 := eq_true q171
   go_wp2_with (first | ((with_reducible refine gate_callee (f := 100) rfl ?_); refine gl Try.func100 37 #[.int .i64 x6_1] rfl rfl rfl ?_; (with_reducible refine (spec_l1Next.calls x6_1 t173 _ A12.out).mono ?_); rintro e w' ⟨rfl, ⟨nd, rfl⟩⟩; refine ⟨_, rfl, ?_⟩))
   go_roundg k1
   case measure => have := HK1.out; omega
   case rel => exact ⟨(t173), (x7_1), (wrap64 (x8_1 + 1)), ze, ze, ze, H', ⟨by have := HK1.out; omega⟩, by repeat (first | exact Drawn0.refl _ | apply Drawn0.step)⟩
end Go.Proofs.Ytooamacekmjpaaa.PFnVolForm
