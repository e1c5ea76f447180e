/- The walk: each function that the law comes to as a plain Lean function, and a proof that the Go code answers so. Written by this session's program over the kit's printer. -/
import Derived.Test.YtooamacekmjpaaaZ
import Derived.Test.YtooamacekmjpaaaQFnPoolOnce0
namespace Go.Proofs.Ytooamacekmjpaaa.PFnPoolOnce
open Go.RowKit Go.Proofs.YtooamacekmjpaaaW.PrintWords Go.Proofs.YtooamacekmjpaaaW.PrintLast Go.Proofs.YtooamacekmjpaaaW.PrintMore
attribute [local go_sem] max2_int min2_int max_two min_two max_three min_three max_four min_four   -- for this text's walks alone
set_option linter.unusedVariables false
set_option linter.unusedSimpArgs false
/-! ### spec_l3Copy: function 92 -/
def spec_l3Copy.f (a0_0 : ByteArray) (l0_1 : List Int) : Option (ByteArray × List Int) := (some (([] : List Int) : List Int)).bind fun y182 => (if y182.length + l0_1.length < 17592186044416 then (some (a0_0, (y182 ++ l0_1))) else (none))
def spec_l3Copy.T1 : Bool × List (List Nat × List Nat) := (true, [([], []), ([0], [0]), ([], []), ([], []), ([3], [3]), ([2, 4], [2, 4]), ([1, 5], [1, 5]), ([6, 5, 0, 1, 2, 3, 4, 5, 6], [6])])
def spec_l3Copy.B1 : List Nat := [0, 1, 0, 0, 8, 28, 63, 127]
theorem spec_l3Copy.tab1 : rtab .any (opsOf Try.f92 1) = spec_l3Copy.T1 := by kernel_rfl
theorem spec_l3Copy.bits1 : waitsOk spec_l3Copy.T1.2 spec_l3Copy.B1 = true := by kernel_rfl
set_option maxHeartbeats 8000000 in
set_option maxRecDepth 100000 in
theorem spec_l3Copy.calls (a0_0 : ByteArray) (A0_1 : Option Addr) (c0_1 : Nat) (l0_1 : List Int) (r1 : ByteArray) (r2 : List Int) (w : World) (hr0_1 : Kd.C (Kd.int .i64) w A0_1 l0_1.length l0_1) (hc0_1 : l0_1.length ≤ c0_1) (h : spec_l3Copy.f a0_0 l0_1 = some (r1, r2)) :
 Calls Try.prog 92 #[.agg #[.string a0_0, .slice A0_1 l0_1.length c0_1]] w fun e w' => ∃ v1_ : Value, e = .returned (.agg #[.string r1, v1_]) ∧ Kd.R (Kd.int .i64) 3 w' w.heap.size (fun _ => True) v1_ r2 ∧ Below w.heap.size w w' := by
 have hu38 := Try.underlying38
 have HR0_1 := am hr0_1
 have HC0_1 := am hc0_1
 clear hr0_1 hc0_1
 have HB := am (Below.refl w.heap.size w)
 have H : ((some (([] : List Int) : List Int)).bind fun y182 => (if y182.length + l0_1.length < 17592186044416 then (some (a0_0, (y182 ++ l0_1))) else (none))) = some (r1, r2) := h
 clear h
 obtain ⟨y182, hy182⟩ : ∃ y_ : List Int, y_ = (([] : List Int)) := ⟨_, rfl⟩
 replace H : (if y182.length + l0_1.length < 17592186044416 then (some (a0_0, (y182 ++ l0_1))) else (none)) = some (r1, r2) := hY hy182 H
 have Ny182 := am hy182
 clear hy182
 by_cases c2 : y182.length + l0_1.length < 17592186044416
 rotate_left
 · rw [if_neg c2] at H
   exact absurd H (by simp)
 rw [if_pos c2] at H
 have LMc2 := am c2
 clear c2
 obtain ⟨y185, hy185⟩ : ∃ y_ : List Int, y_ = (y182 ++ l0_1) := ⟨_, rfl⟩
 replace H : (some (a0_0, y185)) = some (r1, r2) := hY hy185 H
 have Ny185 := am hy185
 clear hy185
 simp only [Option.some.injEq, Prod.mk.injEq] at H
 obtain ⟨rfl, rfl⟩ := H
 go_enter Try.func92, Try.ntmps92
 try go_wp2_with (first | ((with_reducible refine gate_dst (N := 1) rfl ?_); refine bx 38 #[.string a0_0, .slice A0_1 l0_1.length c0_1] ?_; intro gb180 hg w3 hbox hb; have BK180 := am (hbox); have GW180 := am (zn hg (zb HB)); have GE180 := am (zn hg (zb HB)); replace HB := am (below_step (zb HB) hb); clear hb hbox hg) | ((with_reducible refine gate_dst (N := 2) rfl ?_); refine bx 38 #[.string (⟨#[]⟩ : ByteArray), .slice none 0 0] ?_; intro gb181 hg w4 hbox hb; have BK181 := am (hbox); have GW181 := am (zn hg (zb HB)); have GE181 := am (zn hg (zb HB)); replace HB := am (below_step (zb HB) hb); have NB180_181 := am (zx hg (zk BK180)); have NB181_180 := am (zy hg (zk BK180)); replace BK180 := am (blk_below (zk BK180) hb); clear hb hbox hg))
 replace BK180 := am (blk_drew BK180.out)
 replace BK181 := am (blk_drew BK181.out)
 replace HB := am (below_drew1 HB.out)
 refine start_ (n := 8) (S := fun w' => w'.cell? ⟨gb180, 0, none⟩ = some (.string a0_0) ∧ w'.cell? ⟨gb180, 1, none⟩ = some (.slice A0_1 l0_1.length c0_1)) (ds := []) (bs 8 0) (by kernel_rfl) rfl rfl ⟨ce0 BK180, ce1 BK180⟩ (fun hHeld => ?_); refine with_tabW spec_l3Copy.tab1 spec_l3Copy.bits1 (fun HT_ HW_ => ?_)
 generalize w4.drew = w5 at BK180 BK181 HB hHeld ⊢
 refine pu 0 3 8 1 rfl rfl ?_
 refine pu 3 6 8 9 rfl rfl ?_
 refine ta2 1 4 8 11 rfl rfl hHeld ?_
 refine ta2 4 7 8 27 rfl rfl hHeld ?_
 refine oz 2 8 31 rfl rfl (fun K hK => ?_)
 refine Kd.R_lit_step (Kd.int .i64) _ 3 ?hg (N := 5) ?hd (xs := ([] : List Int)) (inner := []) (ok := fun _ => True) (okp := fun _ => True) ?hr ?hp (fun _ hk => hk) trivial (Below.refl _ _) (Nat.le_refl _) (by simp) ?_; (case hd => rfl); (case hg => rfl); (case hr => first | (go_simp; done) | (go_simp; rfl)); (case hp => exact (Reps.none _ _))
 intro v183 w6 ho7 hb hg_ hnew_
 clear hg_ hnew_
 (first | rw [← Ny182.out] at ho7 | (simp only [Int.reduceToNat] at ho7; rw [← Ny182.out] at ho7))
 have HO184 := am (Kd.R_lower ho7 (below_size (zb HB)))
 replace BK180 := am (blk_below (zk BK180) hb)
 replace BK181 := am (blk_below (zk BK181) hb)
 replace HB := am (below_step (zb HB) hb)
 clear hb ho7
 refine hK.out _ _ ⟨ce0 BK180, ce1 BK180⟩ (fun hHeld => ?_)
 clear hK K
 refine norm_ (a' := ?_) ?_ ?_
 rotate_left
 · show Act.put _ (some 5) _ = _
   simp only [Act.put, List.setIfInBounds_toArray, List.set_cons_zero, List.set_cons_succ, i64_w, i32_w]
   rfl
 refine oz 5 8 63 rfl rfl (fun K hK => ?_)
 refine Kd.R_append_rows_step (Kd.int .i64) (w0 := w) w.heap.size (by rfl) (.tmp 5) (.tmp 7) 36 3 (.int .i64 0) 8 rfl Try.underlying36 info3 rfl (by decide) (by omega) v183 y182 l0_1 _ _ _ (fun _ => True) (fun _ => False) rfl rfl ?aO ?aR (fun _ _ h => h) (fun _ h => h.elim) ?aF ?aB ?aS ?aL ?_
 (case aR => repeat (first | exact (Kd.C_below HR0_1.out HB.out) | (with_reducible refine Kd.C_alloc ?_ _) | (with_reducible refine Kd.C_drewN ?_ _) | (with_reducible refine Kd.C_drew ?_)))
 (case aB => exact (zb HB))
 (case aF => exact (fun _ _ => trivial))
 (case aO => exact (zr HO184))
 (case aS => exact (below_size (zb HB)))
 (case aL => have := LMc2.out; omega)
 intro v186 w8 ho hb hg hat
 rw [← Ny185.out] at ho
 replace BK180 := am (blk_grown (zk BK180) hg (Kd.R_ne HO184.out BK180.out (by decide)))
 replace BK181 := am (blk_grown (zk BK181) hg (Kd.R_ne HO184.out BK181.out (by decide)))
 replace HB := am (hb)
 have HO187 := am (ho)
 clear HO184 ho hb hg hat
 obtain ⟨Ao9, co9, eo9⟩ := Kd.R_slice HO187.out
 (first | subst eo9 | (injection eo9 with f1_ f2_ f3_; have f4_ := f1_.symm; have f5_ := f3_.symm; clear f1_ f2_ f3_; subst f4_; subst f5_))
 refine hK.out _ _ ⟨ce0 BK180, ce1 BK180⟩ (fun hHeld => ?_)
 clear hK K
 refine norm_ (a' := ?_) ?_ ?_
 rotate_left
 · show Act.put _ (some 8) _ = _
   simp only [Act.put, List.setIfInBounds_toArray, List.set_cons_zero, List.set_cons_succ, i64_w, i32_w]
   rfl
 refine pu 6 9 8 127 rfl rfl ?_
 refine oz 7 8 255 rfl rfl (fun K hK => ?_)
 have hs10 := ce0 BK181
 have hfs10 := bfz BK181 0
 have hns10_0 := NB180_181.out
 have hms10_0 := NB181_180.out
 have hs11 := ce1 BK181
 have hfs11 := bfz BK181 1
 have hns11_0 := NB180_181.out
 have hms11_0 := NB181_180.out
 refine skip_ (w1 := ?_) (by rfl) rfl ?_ ?_
 rotate_left
 · go_simp
   rfl
 refine hK.out _ _ ⟨((cell_far (p := ⟨gb181, _, none⟩) NB180_181.out _).trans (((cell_far (p := ⟨gb181, _, none⟩) NB180_181.out _).trans (hHeld.1)))), ((cell_far (p := ⟨gb181, _, none⟩) NB180_181.out _).trans (((cell_far (p := ⟨gb181, _, none⟩) NB180_181.out _).trans (hHeld.2))))⟩ (fun hHeld => ?_)
 clear hK K
 refine done_ (done_of HT_.out (by kernel_rfl)) ?_
 try go_wp2
 refine bodyPost_ret (results_cell_row rfl _ _ gb181 38 #[.string a0_0, .slice Ao9 y185.length co9] (0, 0) _ rfl (zp BK181) Try.underlying38 rfl (by kernel_rfl)) rfl ?_
 exact ⟨_, zw, by (with_reducible repeat (first | apply Kd.R_alloc | apply Kd.R_drewN | apply Kd.R_drew)); exact Kd.R_mono (Kd.R_far (p := ⟨gb181, 1, none⟩) (Kd.R_far (p := ⟨gb181, 0, none⟩) (Kd.R_types HO187.out BK181.out (by decide)) (fun _ hk => hk.2) (.string a0_0)) (fun _ hk => hk.2) (.slice Ao9 y185.length co9)) (fun _ hk => trivial), (zb HB)⟩
/-! ### spec_l2Copy: function 93 -/
def spec_l2Copy.f (l0 : List (S55)) : Option ((List (S55))) := (some (([] : List (S55)) : List (S55))).bind fun y188 => (if y188.length + l0.length < 5864062014805 then (some (y188 ++ l0)) else (none))
set_option maxHeartbeats 8000000 in
set_option maxRecDepth 100000 in
theorem spec_l2Copy.calls (A0 : Option Addr) (c0 : Nat) (l0 : List (S55)) (r : List (S55)) (w : World) (hr0 : Kd.C k55 w A0 l0.length l0) (hc0 : l0.length ≤ c0) (h : spec_l2Copy.f l0 = some r) :
 Calls Try.prog 93 #[.slice A0 l0.length c0] w fun e w' => ∃ v0_ : Value, e = .returned (v0_) ∧ Kd.R k55 55 w' w.heap.size (fun _ => True) v0_ r ∧ Below w.heap.size w w' := by
 have HR0 := am hr0
 have HC0 := am hc0
 clear hr0 hc0
 have HB := am (Below.refl w.heap.size w)
 have H : ((some (([] : List (S55)) : List (S55))).bind fun y188 => (if y188.length + l0.length < 5864062014805 then (some (y188 ++ l0)) else (none))) = some r := h
 clear h
 obtain ⟨y188, hy188⟩ : ∃ y_ : List (S55), y_ = (([] : List (S55))) := ⟨_, rfl⟩
 replace H : (if y188.length + l0.length < 5864062014805 then (some (y188 ++ l0)) else (none)) = some r := hY hy188 H
 have Ny188 := am hy188
 clear hy188
 by_cases c2 : y188.length + l0.length < 5864062014805
 rotate_left
 · rw [if_neg c2] at H
   exact absurd H (by simp)
 rw [if_pos c2] at H
 have LMc2 := am c2
 clear c2
 obtain ⟨y191, hy191⟩ : ∃ y_ : List (S55), y_ = (y188 ++ l0) := ⟨_, rfl⟩
 replace H : (some y191) = some r := hY hy191 H
 have Ny191 := am hy191
 clear hy191
 obtain rfl := Option.some.inj H
 go_enter Try.func93, Try.ntmps93
 go_wp2_with (first | ((with_reducible refine gate_dst (N := 3) rfl ?_); refine Kd.R_lit k55 _ 55 ?hg (N := 3) ?hd (xs := ([] : List (S55))) (inner := []) (ok := fun _ => True) (okp := fun _ => True) ?hr ?hp (fun _ hk => hk) trivial (Below.refl _ _) (Nat.le_refl _) (by simp) ?_; (case hd => rfl); (case hg => rfl); (case hr => first | (go_simp; done) | (go_simp; rfl)); (case hp => exact (Reps.none _ _)); intro v189 w3 ho4 hb hg_ hnew_; clear hg_ hnew_; (first | rw [← Ny188.out] at ho4 | (simp only [Int.reduceToNat] at ho4; rw [← Ny188.out] at ho4)); have HO190 := am (Kd.R_lower ho4 (below_size (zb HB))); replace HB := am (below_step (zb HB) hb); clear hb ho4) | ((with_reducible refine gate_builtin (b := .append) (xs := #[.tmp 3, .tmp 4]) rfl ?_); at_builtin; refine Kd.R_append_rows k55 (w0 := w) w.heap.size rfl (.tmp 3) (.tmp 4) 28 55 (.agg #[(.string ⟨#[]⟩), (.int .i64 0)]) 24 rfl Try.underlying28 info55 rfl (by decide) (by omega) v189 y188 l0 _ _ _ (fun _ => True) (fun _ => False) rfl rfl ?aO ?aR (fun _ _ h => h) (fun _ h => h.elim) ?aF ?aB ?aS ?aL ?_; (case aR => repeat (first | exact (Kd.C_below HR0.out HB.out) | (with_reducible refine Kd.C_alloc ?_ _) | (with_reducible refine Kd.C_drewN ?_ _) | (with_reducible refine Kd.C_drew ?_))); (case aB => exact (zb HB)); (case aF => exact (fun _ _ => trivial)); (case aO => exact (zr HO190)); (case aS => exact (below_size (zb HB))); (case aL => have := LMc2.out; omega); intro v192 w5 ho hb hg hat; rw [← Ny191.out] at ho; replace HB := am (hb); have HO193 := am (ho); clear HO190; clear ho hb hg hat))
 go_ret
 exact ⟨_, zw, (zr HO193), (zb HB)⟩
/-! ### spec_l11Copy: function 82 -/
def spec_l11Copy.l0 : Nat → List (S38) → Int → List (S55) → List (S38) → Option ((List (S55)) × (List (S38)))
 | 0, _, _, _, _ => none
 | k + 1, x3, x4, x195000, x195001 => if x4 < (x195001.length : Int) then (if 0 ≤ x4 then ((spec_l3Copy.f ((rd_T38 x195001 x4).f0) ((rd_T38 x195001 x4).f1)).bind fun bt200 => (if x3.length < 3518437208883 then (spec_l11Copy.l0 k (x3 ++ [(⟨bt200.1, bt200.2⟩ : S38)]) (wrap64 (x4 + 1)) x195000 x195001) else (none))) else (none)) else ((spec_l2Copy.f x195000).bind fun t207 => (some (t207, x3)))
def spec_l11Copy.f (k : Nat) (l0_0 : List (S55)) (l0_1 : List (S38)) : Option ((List (S55)) × (List (S38))) := spec_l11Copy.l0 k (([] : List (S38))) 0 l0_0 l0_1
theorem spec_l11Copy.mono_l : ∀ k, (∀ y0 y1 y2 y3, LeO (spec_l11Copy.l0 k y0 y1 y2 y3) (spec_l11Copy.l0 (k + 1) y0 y1 y2 y3))
 | 0 => fun _ _ _ _ r h => by simp [spec_l11Copy.l0] at h
 | k + 1 => by
  have ih0 := spec_l11Copy.mono_l k
  intro y0 y1 y2 y3
  unfold spec_l11Copy.l0
  exact mo1 ih0
theorem spec_l11Copy.mono : ∀ a0 a1 k, LeO (spec_l11Copy.f k a0 a1) (spec_l11Copy.f (k + 1) a0 a1) := by
 intro a0 a1 k
 have ih0 := spec_l11Copy.mono_l k
 unfold spec_l11Copy.f
 exact mo1 ih0
set_option maxHeartbeats 8000000 in
set_option maxRecDepth 100000 in
theorem spec_l11Copy.calls (k : Nat) (A0_0 : Option Addr) (c0_0 : Nat) (l0_0 : List (S55)) (A0_1 : Option Addr) (c0_1 : Nat) (l0_1 : List (S38)) (r1 : List (S55)) (r2 : List (S38)) (w : World) (hr0_0 : Kd.C k55 w A0_0 l0_0.length l0_0) (hc0_0 : l0_0.length ≤ c0_0) (hr0_1 : Kd.C k38 w A0_1 l0_1.length l0_1) (hc0_1 : l0_1.length ≤ c0_1) (h : spec_l11Copy.f k l0_0 l0_1 = some (r1, r2)) :
 Calls Try.prog 82 #[.agg #[.slice A0_0 l0_0.length c0_0, .slice A0_1 l0_1.length c0_1]] w fun e w' => ∃ v0_ v1_ : Value, e = .returned (.agg #[v0_, v1_]) ∧ Kd.R k55 55 w' w.heap.size (fun _ => True) v0_ r1 ∧ Kd.S k38 38 w' w.heap.size (fun _ => True) v1_ r2 ∧ Below w.heap.size w w' := by
 have hu31 := Try.underlying31
 have hu38 := Try.underlying38
 have HR0_0 := am hr0_0
 have HC0_0 := am hc0_0
 clear hr0_0 hc0_0
 have HR0_1 := am hr0_1
 have HC0_1 := am hc0_1
 clear hr0_1 hc0_1
 have HB := am (Below.refl w.heap.size w)
 have H : (spec_l11Copy.l0 k (([] : List (S38))) 0 l0_0 l0_1) = some (r1, r2) := h
 clear h
 obtain ⟨y196, hy196⟩ : ∃ y_ : List (S38), y_ = (([] : List (S38))) := ⟨_, rfl⟩
 replace H : (spec_l11Copy.l0 k y196 0 l0_0 l0_1) = some (r1, r2) := hY hy196 H
 have Ny196 := am hy196
 clear hy196
 have H' := am H
 clear H
 go_enter Try.func82, Try.ntmps82
 go_wp2_with (first | ((with_reducible refine gate_dst (N := 1) rfl ?_); refine bx 31 #[.slice A0_0 l0_0.length c0_0, .slice A0_1 l0_1.length c0_1] ?_; intro gb194 hg w2 hbox hb; have BK194 := am (hbox); have GW194 := am (zn hg (zb HB)); have GE194 := am (zn hg (zb HB)); replace HB := am (below_step (zb HB) hb); clear hb hbox hg) | ((with_reducible refine gate_dst (N := 2) rfl ?_); refine bx 31 #[.slice none 0 0, .slice none 0 0] ?_; intro gb195 hg w3 hbox hb; have BK195 := am (hbox); have GW195 := am (zn hg (zb HB)); have GE195 := am (zn hg (zb HB)); replace HB := am (below_step (zb HB) hb); have NB194_195 := am (zx hg (zk BK194)); have NB195_194 := am (zy hg (zk BK194)); replace BK194 := am (blk_below (zk BK194) hb); clear hb hbox hg) | ((with_reducible refine gate_dst (N := 5) rfl ?_); refine Kd.S_lit k38 _ 38 ?hg (N := 5) ?hd (xs := ([] : List (S38))) (inner := []) (ok := fun _ => True) (okp := fun _ => True) ?hr ?hp (fun _ hk => hk) trivial (Below.refl _ _) (Nat.le_refl _) (by simp) ?_; (case hd => rfl); (case hg => rfl); (case hr => first | (go_simp; done) | (go_simp; rfl)); (case hp => exact (Reps.none _ _)); intro v197 w4 ho5 hb hg_ hnew_; clear hg_ hnew_; (first | rw [← Ny196.out] at ho5 | (simp only [Int.reduceToNat] at ho5; rw [← Ny196.out] at ho5)); have HO198 := am (Kd.S_lower ho5 (below_size (zb HB))); replace BK194 := am (blk_below (zk BK194) hb); replace BK195 := am (blk_below (zk BK195) hb); replace HB := am (below_step (zb HB) hb); clear hb ho5))
 go_loopg [3, 4] k (fun kq v3 v4 w' => ∃ (x3_1 : List (S38)) (x4_1 : Int), v4 = .int .i64 x4_1 ∧ Aside0 (spec_l11Copy.l0 kq x3_1 x4_1 l0_0 l0_1 = some (r1, r2)) ∧ Aside0 (kq ≤ k) ∧ Aside0 (Kd.S k38 38 w' w.heap.size (fun _ => True) v3 x3_1) ∧ Aside0 (w'.heap[gb194]? = some (.cells #[(.slice A0_0 l0_0.length c0_0), (.slice A0_1 l0_1.length c0_1)] 31 (0, 0))) ∧ Aside0 (w'.heap[gb195]? = some (.cells #[(.slice none 0 0), (.slice none 0 0)] 31 (0, 0))) ∧ Aside0 (Below w.heap.size w w'))
 case atStart => exact ⟨(y196), (0), ze, H', ⟨Nat.le_refl _⟩, ⟨zs HO198⟩, ⟨zk BK194⟩, ⟨zk BK195⟩, ⟨zb HB⟩⟩
 case round =>
  clear H'
  try clear p2
  obtain ⟨x3_1, x4_1, rfl, HA, HK1, HO_3, BK194, BK195, HB⟩ := hrel
  cases gk with
  | zero => exact absurd HA.out (by simp [spec_l11Copy.l0])
  | succ k1 =>
   have H := HA.out
   clear HA
   simp only [spec_l11Copy.l0] at H
   by_cases c6 : x4_1 < (l0_1.length : Int)
   rotate_left
   · rw [if_neg c6] at H
     have c6b0 : decide (x4_1 < (l0_1.length : Int)) = false := decide_eq_false c6
     clear c6
     replace H := obs H
     obtain ⟨t207, A150, H⟩ := H
     replace H : (some (t207, x3_1)) = some (r1, r2) := H
     have A15 := am A150
     clear A150
     simp only [Option.some.injEq, Prod.mk.injEq] at H
     obtain ⟨rfl, rfl⟩ := H
     have hnb16 := NB194_195.out
     have hnc16 := NB195_194.out
     have hcz17_0 := ce0 BK194
     have hcz17_1 := ce1 BK194
     have hfz17_0 := bfz BK194 0
     have hfz17_1 := bfz BK194 1
     go_wp2_with (first | ((with_reducible refine gate_callee (f := 93) rfl ?_); refine gl Try.func93 24 #[.slice A0_0 l0_0.length c0_0] rfl rfl rfl ?_; (with_reducible refine (spec_l2Copy.calls _ _ l0_0 t207 _ ?side1 ?side2 A15.out).mono ?_); (case side1 => exact zc (Kd.C_below HR0_0.out HB.out)); (case side2 => exact HC0_0.out); rintro e w18 ⟨v208, rfl, ho0, hb⟩; refine ⟨_, rfl, ?_⟩; replace HO_3 := am (Kd.S_below (zs HO_3) hb); have HO209 := am (Kd.R_lower ho0 (below_size (zb HB))); replace BK194 := am (blk_below (zk BK194) hb); replace BK195 := am (blk_below (zk BK195) hb); replace HB := am (below_step (zb HB) hb); (try clear hb); (try clear hb2); (try clear hk); (try clear hi); (try clear ho0); obtain ⟨Ao19, co19, eo19⟩ := Kd.S_slice HO_3.out; subst eo19; obtain ⟨Ao20, co20, eo20⟩ := Kd.R_slice HO209.out; subst eo20; have hcz21_0 := ce0 BK195; have hcz21_1 := ce1 BK195; have hfz21_0 := bfz BK195 0; have hfz21_1 := bfz BK195 1))
     refine bodyPost_ret (results_cell_row rfl _ _ gb195 31 #[.slice Ao20 t207.length co20, .slice Ao19 x3_1.length co19] (0, 0) _ rfl (zp BK195) Try.underlying31 rfl (by kernel_rfl)) rfl ?_
     exact ⟨_, _, zw, by (with_reducible repeat (first | apply Kd.R_alloc | apply Kd.R_drewN | apply Kd.R_drew)); exact Kd.R_mono (Kd.R_far (p := ⟨gb195, 1, none⟩) (Kd.R_far (p := ⟨gb195, 0, none⟩) (Kd.R_types HO209.out BK195.out (by decide)) (fun _ hk => hk.2) (.slice Ao20 t207.length co20)) (fun _ hk => hk.2) (.slice Ao19 x3_1.length co19)) (fun _ hk => trivial), by (with_reducible repeat (first | apply Kd.S_alloc | apply Kd.S_drewN | apply Kd.S_drew)); exact Kd.S_mono (Kd.S_far (p := ⟨gb195, 1, none⟩) (Kd.S_far (p := ⟨gb195, 0, none⟩) (Kd.S_types HO_3.out BK195.out (by decide)) (fun _ hk => hk.2) (.slice Ao20 t207.length co20)) (fun _ hk => hk.2) (.slice Ao19 x3_1.length co19)) (fun _ hk => trivial), (zb HB)⟩
   rw [if_pos c6] at H
   have c6b0 : decide (x4_1 < (l0_1.length : Int)) = true := decide_eq_true c6
   clear c6
   by_cases c7 : 0 ≤ x4_1
   rotate_left
   · rw [if_neg c7] at H
     exact absurd H (by simp)
   rw [if_pos c7] at H
   have c7b0 : decide (0 ≤ x4_1) = true := decide_eq_true c7
   clear c7
   replace H := obs H
   obtain ⟨⟨t200, t201⟩, A80, H⟩ := H
   replace H : (if x3_1.length < 3518437208883 then (spec_l11Copy.l0 k1 (x3_1 ++ [(⟨t200, t201⟩ : S38)]) (wrap64 (x4_1 + 1)) l0_0 l0_1) else (none)) = some (r1, r2) := H
   have A8 := am A80
   clear A80
   by_cases c9 : x3_1.length < 3518437208883
   rotate_left
   · rw [if_neg c9] at H
     exact absurd H (by simp)
   rw [if_pos c9] at H
   have LMc9 := am c9
   clear c9
   obtain ⟨y204, hy204⟩ : ∃ y_ : List (S38), y_ = (x3_1 ++ [(⟨t200, t201⟩ : S38)]) := ⟨_, rfl⟩
   replace H : (spec_l11Copy.l0 k1 y204 (wrap64 (x4_1 + 1)) l0_0 l0_1) = some (r1, r2) := hY hy204 H
   have Ny204 := am hy204
   clear hy204
   have H' := am H
   clear H
   have hnb10 := NB194_195.out
   have hnc10 := NB195_194.out
   have hcz11_0 := ce0 BK194
   have hcz11_1 := ce1 BK194
   have hfz11_0 := bfz BK194 0
   have hfz11_1 := bfz BK194 1
   have p199 : 0 ≤ (x4_1 : Int) := of_decide_eq_true zl
   have q199 : x4_1 < (l0_1.length : Int) := of_decide_eq_true zl
   obtain ⟨ad199, A199_1, c199_1, e199, hx199_0, hx199_1, hl199_1, hi199_1⟩ := at_T38 HR0_1.out x4_1 p199 q199
   cases e199
   replace hx199_0 := hcx HB hx199_0
   replace hx199_1 := hcx HB hx199_1
   have HR199_1 := am hi199_1
   have HC199_1 := am hl199_1
   clear hi199_1 hl199_1
   replace p199 := eq_true p199
   replace q199 := eq_true q199
   go_wp2_with (first | ((with_reducible refine gate_callee (f := 92) rfl ?_); refine gl Try.func92 19 #[.agg #[.string ((rd_T38 l0_1 x4_1).f0), .slice A199_1 ((rd_T38 l0_1 x4_1).f1).length c199_1]] rfl rfl rfl ?_; (with_reducible refine (spec_l3Copy.calls ((rd_T38 l0_1 x4_1).f0) _ _ ((rd_T38 l0_1 x4_1).f1) t200 t201 _ ?side1 ?side2 A8.out).mono ?_); (case side1 => exact zc (Kd.C_below HR199_1.out HB.out)); (case side2 => exact HC199_1.out); rintro e w12 ⟨v202, rfl, ho0, hb⟩; refine ⟨_, rfl, ?_⟩; replace HO_3 := am (Kd.S_elder' (zs HO_3) (Kd.R_base ho0) hb); have HO203 := am (Kd.R_lower ho0 (below_size (zb HB))); replace BK194 := am (blk_below (zk BK194) hb); replace BK195 := am (blk_below (zk BK195) hb); replace HB := am (below_step (zb HB) hb); (try clear hb); (try clear hb2); (try clear hk); (try clear hi); (try clear ho0); obtain ⟨Ao14, co14, eo14⟩ := Kd.R_slice HO203.out; subst eo14) | ((with_reducible refine gate_builtin (b := .append) (xs := #[.tmp 13, .tmp 20]) rfl ?_); at_builtin; refine Kd.S_append k38 (w0 := w) w.heap.size rfl (.tmp 13) (.tmp 20) 29 38 (.agg #[(.string ⟨#[]⟩), (.slice none 0 0)]) 40 rfl Try.underlying29 info38 rfl (by decide) (by omega) u3 x3_1 (⟨t200, t201⟩ : S38) [.string t200, .slice Ao14 t201.length co14] (fun _ => True) (fun k_ => some k_ = (.slice Ao14 t201.length co14 : Value).ownBlock) rfl rfl ?aP (fun k_ hk_ => ((Kd.R_mono (ok' := fun k_ => ((fun _ => True)) k_ ∧ some k_ ≠ (u3 : Value).ownBlock) (Kd.R_apart' (HO203.out) (Kd.S_typed HO_3.out) (by decide)) (fun k_ hk => ⟨trivial, hk.2⟩))).1 k_ hk_.symm) ?aF ?aO ?aB ?aS ?aL ?_; (case aP => exact k38_mkM _ _ _ (⟨t200, t201⟩ : S38) (Kd.R_mono (Kd.R_tight rfl (Kd.R_mono (ok' := fun k_ => ((fun _ => True)) k_ ∧ some k_ ≠ (u3 : Value).ownBlock) (Kd.R_apart' (HO203.out) (Kd.S_typed HO_3.out) (by decide)) (fun k_ hk => ⟨trivial, hk.2⟩))) (fun _ h_ => h_))); (case aB => exact (zb HB)); (case aF => exact (fun _ _ => trivial)); (case aO => exact (by (with_reducible repeat (first | apply Kd.S_alloc | apply Kd.S_drewN | apply Kd.S_drew)); exact Kd.S_mono HO_3.out (fun k_ hk => ⟨trivial, fun e_ => hk.2 e_⟩))); (case aS => exact (below_size (zb HB))); (case aL => have := LMc9.out; omega); intro v205 w13 ho hb hg hat; rw [← Ny204.out] at ho; replace BK194 := am (blk_grown (zk BK194) hg (Kd.S_ne HO_3.out BK194.out (by decide))); replace BK195 := am (blk_grown (zk BK195) hg (Kd.S_ne HO_3.out BK195.out (by decide))); replace HB := am (hb); have HO206 := am (ho); clear HO_3 HO203; clear ho hb hg hat))
   go_roundg k1
   case measure => have := HK1.out; omega
   case rel => exact ⟨(y204), (wrap64 (x4_1 + 1)), ze, H', ⟨by have := HK1.out; omega⟩, ⟨zs HO206⟩, ⟨zk BK194⟩, ⟨zk BK195⟩, ⟨zb HB⟩⟩
/-! ### spec_l2Drop: function 96 -/
def spec_l2Drop.f (l0 : List (S55)) (a1 : Int) : Option ((List (S55))) := if 0 ≤ (wrap64 (a1 - 1)) then (if (wrap64 (a1 - 1)) < (l0.length : Int) then ((some (l0.set ((wrap64 (a1 - 1)) : Int).toNat (⟨(rd_T55 l0 (wrap64 (a1 - 1))).f0, wrap64 (((rd_T55 l0 (wrap64 (a1 - 1))).f1) - 1)⟩ : S55) : List (S55))).bind fun y211 => (if ((rd_T55 y211 (wrap64 (a1 - 1))).f1) = 0 then (some (y211.set ((wrap64 (a1 - 1)) : Int).toNat (⟨(⟨#[]⟩ : ByteArray), (rd_T55 y211 (wrap64 (a1 - 1))).f1⟩ : S55))) else (some y211))) else (none)) else (none)
set_option maxHeartbeats 8000000 in
set_option maxRecDepth 100000 in
theorem spec_l2Drop.calls (P0_ : Nat → Prop) (u9000_ : Value) (l0 : List (S55)) (a1 : Int) (r : List (S55)) (w0 w : World) (hB : Below w0.heap.size w0 w) (ho0 : Kd.R k55 55 w w0.heap.size P0_ u9000_ l0) (h : spec_l2Drop.f l0 a1 = some r) :
 Calls Try.prog 96 #[u9000_, .int .i64 a1] w fun e w' => ∃ v0_ : Value, e = .returned (v0_) ∧ Kd.R k55 55 w' w0.heap.size (fun k_ => (P0_ k_ ∨ w.heap.size ≤ k_)) v0_ r ∧ Below w0.heap.size w0 w' ∧ Kept w w' (fun k_ => P0_ k_) := by
 have HO0 := am (show Kd.R k55 55 w w0.heap.size (fun k_ => (P0_ k_ ∨ w.heap.size ≤ k_)) u9000_ l0 from Kd.R_mono ho0 (fun k_ hk => (.inl hk)))
 have HK := am (Kept.refl w (fun k_ => P0_ k_))
 have HW0 := am hB.size
 have HB := am hB
 clear hB
 have H : (if 0 ≤ (wrap64 (a1 - 1)) then (if (wrap64 (a1 - 1)) < (l0.length : Int) then ((some (l0.set ((wrap64 (a1 - 1)) : Int).toNat (⟨(rd_T55 l0 (wrap64 (a1 - 1))).f0, wrap64 (((rd_T55 l0 (wrap64 (a1 - 1))).f1) - 1)⟩ : S55) : List (S55))).bind fun y211 => (if ((rd_T55 y211 (wrap64 (a1 - 1))).f1) = 0 then (some (y211.set ((wrap64 (a1 - 1)) : Int).toNat (⟨(⟨#[]⟩ : ByteArray), (rd_T55 y211 (wrap64 (a1 - 1))).f1⟩ : S55))) else (some y211))) else (none)) else (none)) = some r := h
 clear h
 obtain ⟨ji3, hji3⟩ : ∃ j_ : Int, (wrap64 (a1 - 1)) = j_ := ⟨_, rfl⟩
 replace H : (if 0 ≤ (ji3) then (if (ji3) < (l0.length : Int) then ((some (l0.set ((ji3) : Int).toNat (⟨(rd_T55 l0 (ji3)).f0, wrap64 (((rd_T55 l0 (ji3)).f1) - 1)⟩ : S55) : List (S55))).bind fun y211 => (if ((rd_T55 y211 (ji3)).f1) = 0 then (some (y211.set ((ji3) : Int).toNat (⟨(⟨#[]⟩ : ByteArray), (rd_T55 y211 (ji3)).f1⟩ : S55))) else (some y211))) else (none)) else (none)) = some r := by first | (rw [hji3] at H; exact H) | (simp only [hji3] at H ⊢; exact H)
 have hji3w : (IntKind.i64.wrap (a1 - 1)) = ji3 := (i64_w _).trans hji3
 by_cases c4 : 0 ≤ (ji3)
 rotate_left
 · rw [if_neg c4] at H
   exact absurd H (by simp)
 rw [if_pos c4] at H
 have c4b0 : decide (0 ≤ (ji3)) = true := decide_eq_true c4
 clear c4
 by_cases c5 : (ji3) < (l0.length : Int)
 rotate_left
 · rw [if_neg c5] at H
   exact absurd H (by simp)
 rw [if_pos c5] at H
 have c5b0 : decide ((ji3) < (l0.length : Int)) = true := decide_eq_true c5
 clear c5
 obtain ⟨y211, hy211⟩ : ∃ y_ : List (S55), y_ = (l0.set ((ji3) : Int).toNat (⟨(rd_T55 l0 (ji3)).f0, wrap64 (((rd_T55 l0 (ji3)).f1) - 1)⟩ : S55)) := ⟨_, rfl⟩
 replace H : (if ((rd_T55 y211 (ji3)).f1) = 0 then (some (y211.set ((ji3) : Int).toNat (⟨(⟨#[]⟩ : ByteArray), (rd_T55 y211 (ji3)).f1⟩ : S55))) else (some y211)) = some r := hY hy211 H
 have Ny211 := am hy211
 clear hy211
 by_cases c7 : ((rd_T55 y211 (ji3)).f1) = 0
 rotate_left
 · rw [if_neg c7] at H
   have c7b0 : (((rd_T55 y211 (ji3)).f1) == 0) = false := beq_eq_false_iff_ne.mpr c7
   have c7b1 : (((rd_T55 y211 (ji3)).f1) != 0) = true := bne_iff_ne.mpr c7
   obtain rfl := Option.some.inj H
   obtain ⟨Ao14, co14, eo14⟩ := Kd.R_slice HO0.out
   subst eo14
   have p210 : 0 ≤ ((ji3) : Int) := of_decide_eq_true zl
   have q210 : (ji3) < (l0.length : Int) := of_decide_eq_true zl
   obtain ⟨ad210, e210, hx210_0, hx210_1⟩ := at_T55 (Kd.R_reads' HO0.out).2.2 (ji3) p210 q210
   cases e210
   replace p210 := eq_true p210
   replace q210 := eq_true q210
   have p6 : 0 ≤ ((ji3) : Int) := of_decide_eq_true zl
   have q6 : ((ji3) : Int) < ((l0.length : Int) : Int) := of_decide_eq_true zl
   obtain ⟨go6, co6, eo6, gb6, gl6, cl6, HG6⟩ := Kd.R_form HO0.out (by omega)
   (first | cases eo6 | (injection eo6 with ea_ en_ ec_; (first | subst ea_ | (injection ea_ with ea_; subst ea_)); subst ec_; clear en_))
   have GB6 := am gb6
   have GG6 := am HG6
   clear gb6 gl6 HG6
   have HMgo6 := am (show (P0_ go6 ∨ w.heap.size ≤ go6) from (HO0.out.1 _ rfl))
   (first | simp only [add_plain] at hx210_0 | skip)
   (first | simp only [add_plain] at hx210_1 | skip)
   obtain ⟨ce6, hcl6, hM6, hcc6, hfr6⟩ := Kd.R_elem HO0.out z55 ((ji3) : Int) p6 q6
   obtain rfl := k55_openM hM6
   have hx6_0 : w.cell? ⟨go6, ((ji3) : Int).toNat * 2, none⟩ = some (.string ((rd_T55 l0 (ji3)).f0)) := hcc6 0 _ rfl
   have hx6_1 : w.cell? ⟨go6, ((ji3) : Int).toNat * 2 + 1, none⟩ = some (.int .i64 ((rd_T55 l0 (ji3)).f1)) := hcc6 1 _ rfl
   have hf6_0 : w.frozen? ⟨go6, ((ji3) : Int).toNat * 2, none⟩ = false := hfr6 0
   have hf6_1 : w.frozen? ⟨go6, ((ji3) : Int).toNat * 2 + 1, none⟩ = false := hfr6 1
   clear hcl6 hcc6 hfr6 hM6
   replace p6 := eq_true p6
   replace q6 := eq_true q6
   have HX15 := am (show Kd.R k55 55 w w0.heap.size (fun k_ => (P0_ k_ ∨ w.heap.size ≤ k_)) (.slice (some ⟨go6, 0, none⟩) l0.length co14) l0 from (zr HO0))
   obtain ⟨ce15, hcl15, hM15, hcc15, hfr15⟩ := Kd.R_elem HX15.out z55 ((ji3) : Int) (of_decide_eq_true zl) (by have h_ : ((ji3) : Int) < ((l0.length : Int) : Int) := of_decide_eq_true zl; first | exact h_ | (have e_ := (Kd.R_reads' HO0.out).1; omega) | simpa using h_)
   obtain rfl := k55_openM hM15
   have HP15 := Kd.R_seg HX15.out ((ji3) : Int) (of_decide_eq_true zl) (by have h_ : ((ji3) : Int) < ((l0.length : Int) : Int) := of_decide_eq_true zl; first | exact h_ | (have e_ := (Kd.R_reads' HO0.out).1; omega) | simpa using h_) (seg := [.int .i64 (wrap64 (((rd_T55 l0 (ji3)).f1) - 1))]) (j := 1) hcl15 hcc15 (show 2 ≤ 2 from by decide) (x' := (⟨(rd_T55 l0 (ji3)).f0, wrap64 (((rd_T55 l0 (ji3)).f1) - 1)⟩ : S55)) (k55_mkM _ _ _ (⟨(rd_T55 l0 (ji3)).f0, wrap64 (((rd_T55 l0 (ji3)).f1) - 1)⟩ : S55) ) (fun _ hk => hk)
   have hx15_1 := hcc15 1 _ rfl
   (try simp only [show (k55).sz = 2 from rfl, Nat.mul_one, Nat.add_zero] at hx15_1)
   have hf15_1 := hfr15 1
   (try simp only [show (k55).sz = 2 from rfl, Nat.mul_one, Nat.add_zero] at hf15_1)
   clear hcl15 hcc15 hfr15 hM15
   go_enter Try.func96, Try.ntmps96
   go_wp2_with (first | ((with_reducible refine gate_store (t := 3) (p := 16) rfl ?_); refine store_event (t := 3) (p := 16) (v := ?vo_w16) (w1 := (w.setCell ⟨go6, ((ji3) : Int).toNat * 2 + 1, none⟩ (.int .i64 (wrap64 (((rd_T55 l0 (ji3)).f1) - 1))))) ?hg ?ho ?hn ?hr ?_; (case ho => rfl); (case hg => rfl); (case hn => rfl); (case hr => first | (go_simp; done) | (go_simp; rfl)); intro w16 hw; have hg : w.grownBy w16 (some go6) := (by rw [hw]; exact HP15.2); have hp_ : Kd.R k55 55 w16 w0.heap.size (fun k_ => (P0_ k_ ∨ w.heap.size ≤ k_)) (.slice (some ⟨go6, 0, none⟩) l0.length co14) y211 := (by rw [hw, Ny211.out]; exact HP15.1); clear HP15; replace HB := am ((by rw [hw]; exact below_set (HB.out) GB6.out : Below w0.heap.size w0 w16)); replace HK := am (Kept.of_grown (S := (fun k_ => P0_ k_)) hg (zq HK) (fun k_ e_ => (HO0.out.1 k_ e_))); replace HO0 := am (hp_); clear hg hw hp_; have p212 : 0 ≤ ((ji3) : Int) := of_decide_eq_true zl; have q212 : (ji3) < (y211.length : Int) := (by have h_ : ((ji3) : Int) < ((l0.length : Int) : Int) := of_decide_eq_true zl; first | (have e_ := (Kd.R_reads' HO0.out).1; omega) | simpa only [Ny211.out, List.length_set] using h_); have ql212 : (((ji3) : Int) < ((l0.length : Int) : Int)) = True := eq_true (of_decide_eq_true zl); obtain ⟨ad212, e212, hx212_0, hx212_1⟩ := at_T55 (Kd.R_reads' HO0.out).2.2 (ji3) p212 q212; obtain rfl : (⟨go6, 0, none⟩ : Addr) = ad212 := (by injection e212); (first | simp only [add_plain] at hx212_0 | simp only [add_at] at hx212_0 | simp only [Addr.add, Nat.zero_add] at hx212_0 | skip); (first | simp only [add_plain] at hx212_1 | simp only [add_at] at hx212_1 | simp only [Addr.add, Nat.zero_add] at hx212_1 | skip); replace p212 := eq_true p212; replace q212 := eq_true q212))
   go_ret
   exact ⟨_, by first | rfl | (simp [errW_none, errW_some] <;> rfl) | (simp only [← hji3]; first | rfl | (simp [errW_none, errW_some] <;> rfl)) | (simp [*, errW_none, errW_some] <;> rfl), (zr HO0), (zb HB), (zq HK)⟩
 rw [if_pos c7] at H
 have c7b0 : (((rd_T55 y211 (ji3)).f1) == 0) = true := beq_iff_eq.mpr c7
 have c7b1 : (((rd_T55 y211 (ji3)).f1) != 0) = false := bne_eq_false_iff_eq.mpr c7
 clear c7
 obtain ⟨y213, hy213⟩ : ∃ y_ : List (S55), y_ = (y211.set ((ji3) : Int).toNat (⟨(⟨#[]⟩ : ByteArray), (rd_T55 y211 (ji3)).f1⟩ : S55)) := ⟨_, rfl⟩
 replace H : (some y213) = some r := hY hy213 H
 have Ny213 := am hy213
 clear hy213
 obtain rfl := Option.some.inj H
 obtain ⟨Ao9, co9, eo9⟩ := Kd.R_slice HO0.out
 subst eo9
 have p210 : 0 ≤ ((ji3) : Int) := of_decide_eq_true zl
 have q210 : (ji3) < (l0.length : Int) := of_decide_eq_true zl
 obtain ⟨ad210, e210, hx210_0, hx210_1⟩ := at_T55 (Kd.R_reads' HO0.out).2.2 (ji3) p210 q210
 cases e210
 replace p210 := eq_true p210
 replace q210 := eq_true q210
 have p6 : 0 ≤ ((ji3) : Int) := of_decide_eq_true zl
 have q6 : ((ji3) : Int) < ((l0.length : Int) : Int) := of_decide_eq_true zl
 obtain ⟨go6, co6, eo6, gb6, gl6, cl6, HG6⟩ := Kd.R_form HO0.out (by omega)
 (first | cases eo6 | (injection eo6 with ea_ en_ ec_; (first | subst ea_ | (injection ea_ with ea_; subst ea_)); subst ec_; clear en_))
 have GB6 := am gb6
 have GG6 := am HG6
 clear gb6 gl6 HG6
 have HMgo6 := am (show (P0_ go6 ∨ w.heap.size ≤ go6) from (HO0.out.1 _ rfl))
 (first | simp only [add_plain] at hx210_0 | skip)
 (first | simp only [add_plain] at hx210_1 | skip)
 obtain ⟨ce6, hcl6, hM6, hcc6, hfr6⟩ := Kd.R_elem HO0.out z55 ((ji3) : Int) p6 q6
 obtain rfl := k55_openM hM6
 have hx6_0 : w.cell? ⟨go6, ((ji3) : Int).toNat * 2, none⟩ = some (.string ((rd_T55 l0 (ji3)).f0)) := hcc6 0 _ rfl
 have hx6_1 : w.cell? ⟨go6, ((ji3) : Int).toNat * 2 + 1, none⟩ = some (.int .i64 ((rd_T55 l0 (ji3)).f1)) := hcc6 1 _ rfl
 have hf6_0 : w.frozen? ⟨go6, ((ji3) : Int).toNat * 2, none⟩ = false := hfr6 0
 have hf6_1 : w.frozen? ⟨go6, ((ji3) : Int).toNat * 2 + 1, none⟩ = false := hfr6 1
 clear hcl6 hcc6 hfr6 hM6
 replace p6 := eq_true p6
 replace q6 := eq_true q6
 have HX10 := am (show Kd.R k55 55 w w0.heap.size (fun k_ => (P0_ k_ ∨ w.heap.size ≤ k_)) (.slice (some ⟨go6, 0, none⟩) l0.length co9) l0 from (zr HO0))
 obtain ⟨ce10, hcl10, hM10, hcc10, hfr10⟩ := Kd.R_elem HX10.out z55 ((ji3) : Int) (of_decide_eq_true zl) (by have h_ : ((ji3) : Int) < ((l0.length : Int) : Int) := of_decide_eq_true zl; first | exact h_ | (have e_ := (Kd.R_reads' HO0.out).1; omega) | simpa using h_)
 obtain rfl := k55_openM hM10
 have HP10 := Kd.R_seg HX10.out ((ji3) : Int) (of_decide_eq_true zl) (by have h_ : ((ji3) : Int) < ((l0.length : Int) : Int) := of_decide_eq_true zl; first | exact h_ | (have e_ := (Kd.R_reads' HO0.out).1; omega) | simpa using h_) (seg := [.int .i64 (wrap64 (((rd_T55 l0 (ji3)).f1) - 1))]) (j := 1) hcl10 hcc10 (show 2 ≤ 2 from by decide) (x' := (⟨(rd_T55 l0 (ji3)).f0, wrap64 (((rd_T55 l0 (ji3)).f1) - 1)⟩ : S55)) (k55_mkM _ _ _ (⟨(rd_T55 l0 (ji3)).f0, wrap64 (((rd_T55 l0 (ji3)).f1) - 1)⟩ : S55) ) (fun _ hk => hk)
 have hx10_1 := hcc10 1 _ rfl
 (try simp only [show (k55).sz = 2 from rfl, Nat.mul_one, Nat.add_zero] at hx10_1)
 have hf10_1 := hfr10 1
 (try simp only [show (k55).sz = 2 from rfl, Nat.mul_one, Nat.add_zero] at hf10_1)
 clear hcl10 hcc10 hfr10 hM10
 go_enter Try.func96, Try.ntmps96
 go_wp2_with (first | ((with_reducible refine gate_store (t := 3) (p := 16) rfl ?_); refine store_event (t := 3) (p := 16) (v := ?vo_w11) (w1 := (w.setCell ⟨go6, ((ji3) : Int).toNat * 2 + 1, none⟩ (.int .i64 (wrap64 (((rd_T55 l0 (ji3)).f1) - 1))))) ?hg ?ho ?hn ?hr ?_; (case ho => rfl); (case hg => rfl); (case hn => rfl); (case hr => first | (go_simp; done) | (go_simp; rfl)); intro w11 hw; have hg : w.grownBy w11 (some go6) := (by rw [hw]; exact HP10.2); have hp_ : Kd.R k55 55 w11 w0.heap.size (fun k_ => (P0_ k_ ∨ w.heap.size ≤ k_)) (.slice (some ⟨go6, 0, none⟩) l0.length co9) y211 := (by rw [hw, Ny211.out]; exact HP10.1); clear HP10; replace HB := am ((by rw [hw]; exact below_set (HB.out) GB6.out : Below w0.heap.size w0 w11)); replace HK := am (Kept.of_grown (S := (fun k_ => P0_ k_)) hg (zq HK) (fun k_ e_ => (HO0.out.1 k_ e_))); replace HO0 := am (hp_); clear hg hw hp_; have p212 : 0 ≤ ((ji3) : Int) := of_decide_eq_true zl; have q212 : (ji3) < (y211.length : Int) := (by have h_ : ((ji3) : Int) < ((l0.length : Int) : Int) := of_decide_eq_true zl; first | (have e_ := (Kd.R_reads' HO0.out).1; omega) | simpa only [Ny211.out, List.length_set] using h_); have ql212 : (((ji3) : Int) < ((l0.length : Int) : Int)) = True := eq_true (of_decide_eq_true zl); obtain ⟨ad212, e212, hx212_0, hx212_1⟩ := at_T55 (Kd.R_reads' HO0.out).2.2 (ji3) p212 q212; obtain rfl : (⟨go6, 0, none⟩ : Addr) = ad212 := (by injection e212); (first | simp only [add_plain] at hx212_0 | simp only [add_at] at hx212_0 | simp only [Addr.add, Nat.zero_add] at hx212_0 | skip); (first | simp only [add_plain] at hx212_1 | simp only [add_at] at hx212_1 | simp only [Addr.add, Nat.zero_add] at hx212_1 | skip); replace p212 := eq_true p212; replace q212 := eq_true q212; have p8 : 0 ≤ ((ji3) : Int) := of_decide_eq_true zl; have q8 : ((ji3) : Int) < ((l0.length : Int) : Int) := of_decide_eq_true zl; obtain ⟨ce8, hcl8, hM8, hcc8, hfr8⟩ := Kd.R_elem HO0.out z55 ((ji3) : Int) p8 q8; obtain rfl := k55_openM hM8; have hx8_0 : w11.cell? ⟨go6, ((ji3) : Int).toNat * 2, none⟩ = some (.string ((rd_T55 y211 (ji3)).f0)) := hcc8 0 _ rfl; have hx8_1 : w11.cell? ⟨go6, ((ji3) : Int).toNat * 2 + 1, none⟩ = some (.int .i64 ((rd_T55 y211 (ji3)).f1)) := hcc8 1 _ rfl; have hf8_0 : w11.frozen? ⟨go6, ((ji3) : Int).toNat * 2, none⟩ = false := hfr8 0; have hf8_1 : w11.frozen? ⟨go6, ((ji3) : Int).toNat * 2 + 1, none⟩ = false := hfr8 1; clear hcl8 hcc8 hfr8 hM8; replace p8 := eq_true p8; replace q8 := eq_true q8; have HX12 := am (show Kd.R k55 55 w11 w0.heap.size (fun k_ => (P0_ k_ ∨ w.heap.size ≤ k_)) (.slice (some ⟨go6, 0, none⟩) l0.length co9) y211 from (zr HO0)); obtain ⟨ce12, hcl12, hM12, hcc12, hfr12⟩ := Kd.R_elem HX12.out z55 ((ji3) : Int) (of_decide_eq_true zl) (by have h_ : ((ji3) : Int) < ((l0.length : Int) : Int) := of_decide_eq_true zl; first | exact h_ | (have e_ := (Kd.R_reads' HO0.out).1; omega) | simpa using h_); obtain rfl := k55_openM hM12; have HP12 := Kd.R_seg HX12.out ((ji3) : Int) (of_decide_eq_true zl) (by have h_ : ((ji3) : Int) < ((l0.length : Int) : Int) := of_decide_eq_true zl; first | exact h_ | (have e_ := (Kd.R_reads' HO0.out).1; omega) | simpa using h_) (seg := [.string (⟨#[]⟩ : ByteArray)]) (j := 0) hcl12 hcc12 (show 1 ≤ 2 from by decide) (x' := (⟨(⟨#[]⟩ : ByteArray), (rd_T55 y211 (ji3)).f1⟩ : S55)) (k55_mkM _ _ _ (⟨(⟨#[]⟩ : ByteArray), (rd_T55 y211 (ji3)).f1⟩ : S55) ) (fun _ hk => hk); have hx12_0 := hcc12 0 _ rfl; (try simp only [show (k55).sz = 2 from rfl, Nat.mul_one, Nat.add_zero] at hx12_0); have hf12_0 := hfr12 0; (try simp only [show (k55).sz = 2 from rfl, Nat.mul_one, Nat.add_zero] at hf12_0); clear hcl12 hcc12 hfr12 hM12) | ((with_reducible refine gate_store (t := 9) (p := 28) rfl ?_); refine store_event (t := 9) (p := 28) (v := ?vo_w13) (w1 := (w11.setCell ⟨go6, ((ji3) : Int).toNat * 2, none⟩ (.string (⟨#[]⟩ : ByteArray)))) ?hg ?ho ?hn ?hr ?_; (case ho => rfl); (case hg => rfl); (case hn => rfl); (case hr => first | (go_simp; done) | (go_simp; rfl)); intro w13 hw; have hg : w11.grownBy w13 (some go6) := (by rw [hw]; exact HP12.2); have hp_ : Kd.R k55 55 w13 w0.heap.size (fun k_ => (P0_ k_ ∨ w.heap.size ≤ k_)) (.slice (some ⟨go6, 0, none⟩) l0.length co9) y213 := (by rw [hw, Ny213.out]; exact HP12.1); clear HP12; replace HB := am ((by rw [hw]; exact below_set (HB.out) GB6.out : Below w0.heap.size w0 w13)); replace HK := am (Kept.of_grown (S := (fun k_ => P0_ k_)) hg (zq HK) (fun k_ e_ => (HO0.out.1 k_ e_))); replace HO0 := am (hp_); clear hg hw hp_))
 go_ret
 exact ⟨_, by first | rfl | (simp [errW_none, errW_some] <;> rfl) | (simp only [← hji3]; first | rfl | (simp [errW_none, errW_some] <;> rfl)) | (simp [*, errW_none, errW_some] <;> rfl), (zr HO0), (zb HB), (zq HK)⟩
/-! ### spec_l1Place: function 99 -/
def spec_l1Place.l0 : Nat → ByteArray → Int → Int → Option (Int)
 | 0, _, _, _ => none
 | k + 1, x0, x3, x4 => if x4 < (x0.size : Int) then (if 0 ≤ x4 then (spec_l1Place.l0 k x0 (wrap64 (x3 + (wrap64 ((wrap64 (x4 + 1)) * ((((bt x0 x4) - 97) % 256) + 1))))) (wrap64 (x4 + 1))) else (none)) else (some (wrap64 ((Int.tmod x3 8) + 1)))
def spec_l1Place.f (k : Nat) (a0 : ByteArray) : Option (Int) := spec_l1Place.l0 k a0 0 0
theorem spec_l1Place.mono_l : ∀ k, (∀ y0 y1 y2, LeO (spec_l1Place.l0 k y0 y1 y2) (spec_l1Place.l0 (k + 1) y0 y1 y2))
 | 0 => fun _ _ _ r h => by simp [spec_l1Place.l0] at h
 | k + 1 => by
  have ih0 := spec_l1Place.mono_l k
  intro y0 y1 y2
  unfold spec_l1Place.l0
  exact mo1 ih0
theorem spec_l1Place.mono : ∀ a0 k, LeO (spec_l1Place.f k a0) (spec_l1Place.f (k + 1) a0) := by
 intro a0 k
 have ih0 := spec_l1Place.mono_l k
 unfold spec_l1Place.f
 exact mo1 ih0
set_option maxHeartbeats 8000000 in
set_option maxRecDepth 100000 in
theorem spec_l1Place.calls (k : Nat) (a0 : ByteArray) (r : Int) (w : World) (h : spec_l1Place.f k a0 = some r) :
 Calls Try.prog 99 #[.string a0] w fun e w' => e = .returned (.int .i64 r) ∧ Drawn0 w w' := by
 have H : (spec_l1Place.l0 k a0 0 0) = some r := h
 clear h
 have H' := am H
 clear H
 go_enter Try.func99, Try.ntmps99
 go_wp2
 go_loopg [3, 4] k (fun kq v3 v4 w' => ∃ (x3_1 : Int) (x4_1 : Int), v3 = .int .i64 x3_1 ∧ v4 = .int .i64 x4_1 ∧ Aside0 (spec_l1Place.l0 kq a0 x3_1 x4_1 = some r) ∧ Aside0 (kq ≤ k) ∧ Drawn0 w w')
 case atStart => exact ⟨(0), (0), ze, ze, H', ⟨Nat.le_refl _⟩, by repeat (first | exact Drawn0.refl _ | apply Drawn0.step)⟩
 case round =>
  clear H'
  obtain ⟨x3_1, x4_1, rfl, rfl, HA, HK1, ⟨m1, rfl⟩⟩ := hrel
  cases gk with
  | zero => exact absurd HA.out (by simp [spec_l1Place.l0])
  | succ k1 =>
   have H := HA.out
   clear HA
   simp only [spec_l1Place.l0] at H
   by_cases c2 : x4_1 < (a0.size : Int)
   rotate_left
   · rw [if_neg c2] at H
     have c2b0 : decide (x4_1 < (a0.size : Int)) = false := decide_eq_false c2
     clear c2
     obtain rfl := Option.some.inj H
     go_wp2
     go_ret
     exact ⟨by first | rfl | (simp; done) | (simp [*]; done), by repeat (first | exact Drawn0.refl _ | apply Drawn0.step)⟩
   rw [if_pos c2] at H
   have c2b0 : decide (x4_1 < (a0.size : Int)) = true := decide_eq_true c2
   clear c2
   by_cases c3 : 0 ≤ x4_1
   rotate_left
   · rw [if_neg c3] at H
     exact absurd H (by simp)
   rw [if_pos c3] at H
   have c3b0 : decide (0 ≤ x4_1) = true := decide_eq_true c3
   clear c3
   have H' := am H
   clear H
   have p4 : 0 ≤ (x4_1 : Int) := of_decide_eq_true zl
   have q4 : x4_1 < (a0.size : Int) := of_decide_eq_true zl
   have hx4 := bt_at a0 x4_1
   replace p4 := eq_true p4
   replace q4 := eq_true q4
   go_wp2
   go_roundg k1
   case measure => have := HK1.out; omega
   case rel => exact ⟨(wrap64 (x3_1 + (wrap64 ((wrap64 (x4_1 + 1)) * ((((bt a0 x4_1) - 97) % 256) + 1))))), (wrap64 (x4_1 + 1)), ze, ze, H', ⟨by have := HK1.out; omega⟩, by repeat (first | exact Drawn0.refl _ | apply Drawn0.step)⟩
/-! ### spec_l1Next: function 100 -/
def spec_l1Next.f (a0 : Int) : Option (Int) := some (wrap64 ((Int.tmod a0 8) + 1))
set_option maxHeartbeats 8000000 in
set_option maxRecDepth 100000 in
theorem spec_l1Next.calls (a0 : Int) (r : Int) (w : World) (h : spec_l1Next.f a0 = some r) :
 Calls Try.prog 100 #[.int .i64 a0] w fun e w' => e = .returned (.int .i64 r) ∧ Drawn0 w w' := by
 have H : (some (wrap64 ((Int.tmod a0 8) + 1))) = some r := h
 clear h
 obtain rfl := Option.some.inj H
 go_enter Try.func100, Try.ntmps100
 go_wp2
 go_ret
 exact ⟨by first | rfl | (simp; done) | (simp [*]; done), by repeat (first | exact Drawn0.refl _ | apply Drawn0.step)⟩
/-! ### spec_l2Find: function 98 -/
def spec_l2Find.l0 : Nat → List (S55) → ByteArray → Int → Int → Int → Option (Int × Bool)
 | 0, _, _, _, _, _ => none
 | k + 1, x0, x1, x6, x7, x8 => if x8 < 8 then (if 0 ≤ (wrap64 (x6 - 1)) then (if (wrap64 (x6 - 1)) < (x0.length : Int) then (if ((rd_T55 x0 (wrap64 (x6 - 1))).f0).toList = x1.toList then (some (x6, true)) else (if ((rd_T55 x0 (wrap64 (x6 - 1))).f1) = 0 then (if x7 = 0 then ((spec_l1Next.f x6).bind fun t217 => (spec_l2Find.l0 k x0 x1 t217 x6 (wrap64 (x8 + 1)))) else ((spec_l1Next.f x6).bind fun t218 => (spec_l2Find.l0 k x0 x1 t218 x7 (wrap64 (x8 + 1))))) else ((spec_l1Next.f x6).bind fun t219 => (spec_l2Find.l0 k x0 x1 t219 x7 (wrap64 (x8 + 1)))))) else (none)) else (none)) else (some (x7, false))
def spec_l2Find.f (k : Nat) (l0 : List (S55)) (a1 : ByteArray) : Option (Int × Bool) := (spec_l1Place.f k a1).bind fun t214 => (spec_l2Find.l0 k l0 a1 t214 0 0)
theorem spec_l2Find.mono_l : ∀ k, (∀ y0 y1 y2 y3 y4, LeO (spec_l2Find.l0 k y0 y1 y2 y3 y4) (spec_l2Find.l0 (k + 1) y0 y1 y2 y3 y4))
 | 0 => fun _ _ _ _ _ r h => by simp [spec_l2Find.l0] at h
 | k + 1 => by
  have ih0 := spec_l2Find.mono_l k
  intro y0 y1 y2 y3 y4
  unfold spec_l2Find.l0
  exact mo2 ih0 @spec_l1Place.mono
theorem spec_l2Find.mono : ∀ a0 a1 k, LeO (spec_l2Find.f k a0 a1) (spec_l2Find.f (k + 1) a0 a1) := by
 intro a0 a1 k
 have ih0 := spec_l2Find.mono_l k
 unfold spec_l2Find.f
 exact mo2 ih0 @spec_l1Place.mono
set_option maxHeartbeats 8000000 in
set_option maxRecDepth 100000 in
theorem spec_l2Find.calls (k : Nat) (A0 : Option Addr) (c0 : Nat) (l0 : List (S55)) (a1 : ByteArray) (r1 : Int) (r2 : Bool) (w : World) (hr0 : Kd.C k55 w A0 l0.length l0) (hc0 : l0.length ≤ c0) (h : spec_l2Find.f k l0 a1 = some (r1, r2)) :
 Calls Try.prog 98 #[.slice A0 l0.length c0, .string a1] w fun e w' => e = .returned (.tuple #[.int .i64 r1, .bool r2]) ∧ Drawn0 w w' := by
 have HR0 := am hr0
 have HC0 := am hc0
 clear hr0 hc0
 have H : ((spec_l1Place.f k a1).bind fun t214 => (spec_l2Find.l0 k l0 a1 t214 0 0)) = some (r1, r2) := h
 clear h
 replace H := obs H
 obtain ⟨t214, A30, H⟩ := H
 replace H : (spec_l2Find.l0 k l0 a1 t214 0 0) = some (r1, r2) := H
 have A3 := am A30
 clear A30
 have H' := am H
 clear H
 go_enter Try.func98, Try.ntmps98
 go_wp2_with (first | ((with_reducible refine gate_callee (f := 99) rfl ?_); refine gl Try.func99 10 #[.string a1] rfl rfl rfl ?_; (with_reducible refine (spec_l1Place.calls k a1 t214 _ A3.out).mono ?_); rintro e w' ⟨rfl, ⟨nd, rfl⟩⟩; refine ⟨_, rfl, ?_⟩))
 go_loopg [6, 7, 8] k (fun kq v6 v7 v8 w' => ∃ (x6_1 : Int) (x7_1 : Int) (x8_1 : Int), v6 = .int .i64 x6_1 ∧ v7 = .int .i64 x7_1 ∧ v8 = .int .i64 x8_1 ∧ Aside0 (spec_l2Find.l0 kq l0 a1 x6_1 x7_1 x8_1 = some (r1, r2)) ∧ Aside0 (kq ≤ k) ∧ Drawn0 w w')
 case atStart => exact ⟨(t214), (0), (0), ze, ze, ze, H', ⟨Nat.le_refl _⟩, by repeat (first | exact Drawn0.refl _ | apply Drawn0.step)⟩
 case round =>
  clear H'
  try clear p2
  obtain ⟨x6_1, x7_1, x8_1, rfl, rfl, rfl, HA, HK1, ⟨m1, rfl⟩⟩ := hrel
  cases gk with
  | zero => exact absurd HA.out (by simp [spec_l2Find.l0])
  | succ k1 =>
   have H := HA.out
   clear HA
   simp only [spec_l2Find.l0] at H
   by_cases c4 : x8_1 < 8
   rotate_left
   · rw [if_neg c4] at H
     have c4b0 : decide (x8_1 < 8) = false := decide_eq_false c4
     clear c4
     simp only [Option.some.injEq, Prod.mk.injEq] at H
     obtain ⟨rfl, rfl⟩ := H
     go_wp2
     go_ret2
     exact ⟨by first | rfl | (simp; done) | (simp [*]; done), by repeat (first | exact Drawn0.refl _ | apply Drawn0.step)⟩
   rw [if_pos c4] at H
   have c4b0 : decide (x8_1 < 8) = true := decide_eq_true c4
   clear c4
   obtain ⟨ji5, hji5⟩ : ∃ j_ : Int, (wrap64 (x6_1 - 1)) = j_ := ⟨_, rfl⟩
   replace H : (if 0 ≤ (ji5) then (if (ji5) < (l0.length : Int) then (if ((rd_T55 l0 (ji5)).f0).toList = a1.toList then (some (x6_1, true)) else (if ((rd_T55 l0 (ji5)).f1) = 0 then (if x7_1 = 0 then ((spec_l1Next.f x6_1).bind fun t217 => (spec_l2Find.l0 k1 l0 a1 t217 x6_1 (wrap64 (x8_1 + 1)))) else ((spec_l1Next.f x6_1).bind fun t218 => (spec_l2Find.l0 k1 l0 a1 t218 x7_1 (wrap64 (x8_1 + 1))))) else ((spec_l1Next.f x6_1).bind fun t219 => (spec_l2Find.l0 k1 l0 a1 t219 x7_1 (wrap64 (x8_1 + 1)))))) else (none)) else (none)) = some (r1, r2) := by first | (rw [hji5] at H; exact H) | (simp only [hji5] at H ⊢; exact H)
   have hji5w : (IntKind.i64.wrap (x6_1 - 1)) = ji5 := (i64_w _).trans hji5
   by_cases c6 : 0 ≤ (ji5)
   rotate_left
   · rw [if_neg c6] at H
     exact absurd H (by simp)
   rw [if_pos c6] at H
   have c6b0 : decide (0 ≤ (ji5)) = true := decide_eq_true c6
   clear c6
   by_cases c7 : (ji5) < (l0.length : Int)
   rotate_left
   · rw [if_neg c7] at H
     exact absurd H (by simp)
   rw [if_pos c7] at H
   have c7b0 : decide ((ji5) < (l0.length : Int)) = true := decide_eq_true c7
   clear c7
   by_cases c8 : ((rd_T55 l0 (ji5)).f0).toList = a1.toList
   · rw [if_pos c8] at H
     have c8b0 : (((rd_T55 l0 (ji5)).f0).toList == a1.toList) = true := beq_iff_eq.mpr c8
     have c8b1 : (((rd_T55 l0 (ji5)).f0).toList != a1.toList) = false := bne_eq_false_iff_eq.mpr c8
     clear c8
     simp only [Option.some.injEq, Prod.mk.injEq] at H
     obtain ⟨rfl, rfl⟩ := H
     have p215 : 0 ≤ ((ji5) : Int) := of_decide_eq_true zl
     have q215 : (ji5) < (l0.length : Int) := of_decide_eq_true zl
     obtain ⟨ad215, e215, hx215_0, hx215_1⟩ := at_T55 HR0.out (ji5) p215 q215
     cases e215
     replace p215 := eq_true p215
     replace q215 := eq_true q215
     go_wp2
     go_ret2
     exact ⟨by first | rfl | (simp; done) | (simp only [← hji5] <;> (first | rfl | simp)) | (simp [*]; done), by repeat (first | exact Drawn0.refl _ | apply Drawn0.step)⟩
   rw [if_neg c8] at H
   have c8b0 : (((rd_T55 l0 (ji5)).f0).toList == a1.toList) = false := beq_eq_false_iff_ne.mpr c8
   have c8b1 : (((rd_T55 l0 (ji5)).f0).toList != a1.toList) = true := bne_iff_ne.mpr c8
   by_cases c9 : ((rd_T55 l0 (ji5)).f1) = 0
   rotate_left
   · rw [if_neg c9] at H
     have c9b0 : (((rd_T55 l0 (ji5)).f1) == 0) = false := beq_eq_false_iff_ne.mpr c9
     have c9b1 : (((rd_T55 l0 (ji5)).f1) != 0) = true := bne_iff_ne.mpr c9
     replace H := obs H
     obtain ⟨t219, A130, H⟩ := H
     replace H : (spec_l2Find.l0 k1 l0 a1 t219 x7_1 (wrap64 (x8_1 + 1))) = some (r1, r2) := H
     have A13 := am A130
     clear A130
     have H' := am H
     clear H
     have p215 : 0 ≤ ((ji5) : Int) := of_decide_eq_true zl
     have q215 : (ji5) < (l0.length : Int) := of_decide_eq_true zl
     obtain ⟨ad215, e215, hx215_0, hx215_1⟩ := at_T55 HR0.out (ji5) p215 q215
     cases e215
     replace p215 := eq_true p215
     replace q215 := eq_true q215
     have p216 : 0 ≤ ((ji5) : Int) := of_decide_eq_true zl
     have q216 : (ji5) < (l0.length : Int) := of_decide_eq_true zl
     obtain ⟨ad216, e216, hx216_0, hx216_1⟩ := at_T55 HR0.out (ji5) p216 q216
     obtain rfl : ad215 = ad216 := (by injection e216)
     replace p216 := eq_true p216
     replace q216 := eq_true q216
     go_wp2_with (first | ((with_reducible refine gate_callee (f := 100) rfl ?_); refine gl Try.func100 37 #[.int .i64 x6_1] rfl rfl rfl ?_; (with_reducible refine (spec_l1Next.calls x6_1 t219 _ A13.out).mono ?_); rintro e w' ⟨rfl, ⟨nd, rfl⟩⟩; refine ⟨_, rfl, ?_⟩))
     go_roundg k1
     case measure => have := HK1.out; omega
     case rel => exact ⟨(t219), (x7_1), (wrap64 (x8_1 + 1)), ze, ze, ze, H', ⟨by have := HK1.out; omega⟩, by repeat (first | exact Drawn0.refl _ | apply Drawn0.step)⟩
   rw [if_pos c9] at H
   have c9b0 : (((rd_T55 l0 (ji5)).f1) == 0) = true := beq_iff_eq.mpr c9
   have c9b1 : (((rd_T55 l0 (ji5)).f1) != 0) = false := bne_eq_false_iff_eq.mpr c9
   clear c9
   by_cases c10 : x7_1 = 0
   · rw [if_pos c10] at H
     have c10b0 : (x7_1 == 0) = true := beq_iff_eq.mpr c10
     have c10b1 : (x7_1 != 0) = false := bne_eq_false_iff_eq.mpr c10
     clear c10
     replace H := obs H
     obtain ⟨t217, A110, H⟩ := H
     replace H : (spec_l2Find.l0 k1 l0 a1 t217 x6_1 (wrap64 (x8_1 + 1))) = some (r1, r2) := H
     have A11 := am A110
     clear A110
     have H' := am H
     clear H
     have p215 : 0 ≤ ((ji5) : Int) := of_decide_eq_true zl
     have q215 : (ji5) < (l0.length : Int) := of_decide_eq_true zl
     obtain ⟨ad215, e215, hx215_0, hx215_1⟩ := at_T55 HR0.out (ji5) p215 q215
     cases e215
     replace p215 := eq_true p215
     replace q215 := eq_true q215
     have p216 : 0 ≤ ((ji5) : Int) := of_decide_eq_true zl
     have q216 : (ji5) < (l0.length : Int) := of_decide_eq_true zl
     obtain ⟨ad216, e216, hx216_0, hx216_1⟩ := at_T55 HR0.out (ji5) p216 q216
     obtain rfl : ad215 = ad216 := (by injection e216)
     replace p216 := eq_true p216
     replace q216 := eq_true q216
     go_wp2_with (first | ((with_reducible refine gate_callee (f := 100) rfl ?_); refine gl Try.func100 37 #[.int .i64 x6_1] rfl rfl rfl ?_; (with_reducible refine (spec_l1Next.calls x6_1 t217 _ A11.out).mono ?_); rintro e w' ⟨rfl, ⟨nd, rfl⟩⟩; refine ⟨_, rfl, ?_⟩))
     go_roundg k1
     case measure => have := HK1.out; omega
     case rel => exact ⟨(t217), (x6_1), (wrap64 (x8_1 + 1)), ze, ze, ze, H', ⟨by have := HK1.out; omega⟩, by repeat (first | exact Drawn0.refl _ | apply Drawn0.step)⟩
   rw [if_neg c10] at H
   have c10b0 : (x7_1 == 0) = false := beq_eq_false_iff_ne.mpr c10
   have c10b1 : (x7_1 != 0) = true := bne_iff_ne.mpr c10
   replace H := obs H
   obtain ⟨t218, A120, H⟩ := H
   replace H : (spec_l2Find.l0 k1 l0 a1 t218 x7_1 (wrap64 (x8_1 + 1))) = some (r1, r2) := H
   have A12 := am A120
   clear A120
   have H' := am H
   clear H
   have p215 : 0 ≤ ((ji5) : Int) := of_decide_eq_true zl
   have q215 : (ji5) < (l0.length : Int) := of_decide_eq_true zl
   obtain ⟨ad215, e215, hx215_0, hx215_1⟩ := at_T55 HR0.out (ji5) p215 q215
   cases e215
   replace p215 := eq_true p215
   replace q215 := eq_true q215
   have p216 : 0 ≤ ((ji5) : Int) := of_decide_eq_true zl
   have q216 : (ji5) < (l0.length : Int) := of_decide_eq_true zl
   obtain ⟨ad216, e216, hx216_0, hx216_1⟩ := at_T55 HR0.out (ji5) p216 q216
   obtain rfl : ad215 = ad216 := (by injection e216)
   replace p216 := eq_true p216
   replace q216 := eq_true q216
   go_wp2_with (first | ((with_reducible refine gate_callee (f := 100) rfl ?_); refine gl Try.func100 37 #[.int .i64 x6_1] rfl rfl rfl ?_; (with_reducible refine (spec_l1Next.calls x6_1 t218 _ A12.out).mono ?_); rintro e w' ⟨rfl, ⟨nd, rfl⟩⟩; refine ⟨_, rfl, ?_⟩))
   go_roundg k1
   case measure => have := HK1.out; omega
   case rel => exact ⟨(t218), (x7_1), (wrap64 (x8_1 + 1)), ze, ze, ze, H', ⟨by have := HK1.out; omega⟩, by repeat (first | exact Drawn0.refl _ | apply Drawn0.step)⟩
/-! ### spec_l2Put: function 97 -/
def spec_l2Put.f (k : Nat) (l0 : List (S55)) (a1 : ByteArray) : Option ((List (S55)) × Int × Bool) := (spec_l2Find.f k l0 a1).bind fun bt220 => (if bt220.1 = 0 then (some (l0, 0, false)) else (if 0 ≤ (wrap64 (bt220.1 - 1)) then (if (wrap64 (bt220.1 - 1)) < (l0.length : Int) then (if ((rd_T55 l0 (wrap64 (bt220.1 - 1))).f1) ≥ 99 then (some (l0, 0, false)) else (some ((l0.set ((wrap64 (bt220.1 - 1)) : Int).toNat (⟨a1, wrap64 (((rd_T55 l0 (wrap64 (bt220.1 - 1))).f1) + 1)⟩ : S55)), bt220.1, true))) else (none)) else (none)))
theorem spec_l2Put.mono : ∀ a0 a1 k, LeO (spec_l2Put.f k a0 a1) (spec_l2Put.f (k + 1) a0 a1) := by
 intro a0 a1 k
 unfold spec_l2Put.f
 exact mo1 @spec_l2Find.mono
set_option maxHeartbeats 8000000 in
set_option maxRecDepth 100000 in
theorem spec_l2Put.calls (k : Nat) (P0_ : Nat → Prop) (u9000_ : Value) (l0 : List (S55)) (a1 : ByteArray) (r1 : List (S55)) (r2 : Int) (r3 : Bool) (w0 w : World) (hB : Below w0.heap.size w0 w) (ho0 : Kd.R k55 55 w w0.heap.size P0_ u9000_ l0) (h : spec_l2Put.f k l0 a1 = some (r1, r2, r3)) :
 Calls Try.prog 97 #[u9000_, .string a1] w fun e w' => ∃ v0_ : Value, e = .returned (.tuple #[v0_, .int .i64 r2, .bool r3]) ∧ Kd.R k55 55 w' w0.heap.size (fun k_ => (P0_ k_ ∨ w.heap.size ≤ k_)) v0_ r1 ∧ Below w0.heap.size w0 w' ∧ Kept w w' (fun k_ => P0_ k_) := by
 have hu55 := Try.underlying55
 have HO0 := am (show Kd.R k55 55 w w0.heap.size (fun k_ => (P0_ k_ ∨ w.heap.size ≤ k_)) u9000_ l0 from Kd.R_mono ho0 (fun k_ hk => (.inl hk)))
 have HK := am (Kept.refl w (fun k_ => P0_ k_))
 have HW0 := am hB.size
 have HB := am hB
 clear hB
 have H : ((spec_l2Find.f k l0 a1).bind fun bt220 => (if bt220.1 = 0 then (some (l0, 0, false)) else (if 0 ≤ (wrap64 (bt220.1 - 1)) then (if (wrap64 (bt220.1 - 1)) < (l0.length : Int) then (if ((rd_T55 l0 (wrap64 (bt220.1 - 1))).f1) ≥ 99 then (some (l0, 0, false)) else (some ((l0.set ((wrap64 (bt220.1 - 1)) : Int).toNat (⟨a1, wrap64 (((rd_T55 l0 (wrap64 (bt220.1 - 1))).f1) + 1)⟩ : S55)), bt220.1, true))) else (none)) else (none)))) = some (r1, r2, r3) := h
 clear h
 replace H := obs H
 obtain ⟨⟨t220, t221⟩, A30, H⟩ := H
 replace H : (if t220 = 0 then (some (l0, 0, false)) else (if 0 ≤ (wrap64 (t220 - 1)) then (if (wrap64 (t220 - 1)) < (l0.length : Int) then (if ((rd_T55 l0 (wrap64 (t220 - 1))).f1) ≥ 99 then (some (l0, 0, false)) else (some ((l0.set ((wrap64 (t220 - 1)) : Int).toNat (⟨a1, wrap64 (((rd_T55 l0 (wrap64 (t220 - 1))).f1) + 1)⟩ : S55)), t220, true))) else (none)) else (none))) = some (r1, r2, r3) := H
 have A3 := am A30
 clear A30
 by_cases c4 : t220 = 0
 · rw [if_pos c4] at H
   have c4b0 : (t220 == 0) = true := beq_iff_eq.mpr c4
   have c4b1 : (t220 != 0) = false := bne_eq_false_iff_eq.mpr c4
   clear c4
   simp only [Option.some.injEq, Prod.mk.injEq] at H
   obtain ⟨rfl, rfl, rfl⟩ := H
   obtain ⟨Ao5, co5, eo5⟩ := Kd.R_slice HO0.out
   subst eo5
   go_enter Try.func97, Try.ntmps97
   go_wp2_with (first | ((with_reducible refine gate_callee (f := 98) rfl ?_); refine gl Try.func98 12 #[.slice Ao5 l0.length co5, .string a1] rfl rfl rfl ?_; (with_reducible refine (spec_l2Find.calls k _ _ l0 a1 t220 t221 _ ?side1 ?side2 A3.out).mono ?_); (case side1 => exact zc (Kd.R_reads' HO0.out).2.2); (case side2 => exact (Kd.R_reads' HO0.out).2.1); rintro e w' ⟨rfl, ⟨nd, rfl⟩⟩; refine ⟨_, rfl, ?_⟩))
   go_ret3
   exact ⟨_, zw, (zr HO0), (zb HB), (zq HK)⟩
 rw [if_neg c4] at H
 have c4b0 : (t220 == 0) = false := beq_eq_false_iff_ne.mpr c4
 have c4b1 : (t220 != 0) = true := bne_iff_ne.mpr c4
 obtain ⟨ji6, hji6⟩ : ∃ j_ : Int, (wrap64 (t220 - 1)) = j_ := ⟨_, rfl⟩
 replace H : (if 0 ≤ (ji6) then (if (ji6) < (l0.length : Int) then (if ((rd_T55 l0 (ji6)).f1) ≥ 99 then (some (l0, 0, false)) else (some ((l0.set ((ji6) : Int).toNat (⟨a1, wrap64 (((rd_T55 l0 (ji6)).f1) + 1)⟩ : S55)), t220, true))) else (none)) else (none)) = some (r1, r2, r3) := by first | (rw [hji6] at H; exact H) | (simp only [hji6] at H ⊢; exact H)
 (try rw [hji6] at A3)
 have hji6w : (IntKind.i64.wrap (t220 - 1)) = ji6 := (i64_w _).trans hji6
 by_cases c7 : 0 ≤ (ji6)
 rotate_left
 · rw [if_neg c7] at H
   exact absurd H (by simp)
 rw [if_pos c7] at H
 have c7b0 : decide (0 ≤ (ji6)) = true := decide_eq_true c7
 clear c7
 by_cases c8 : (ji6) < (l0.length : Int)
 rotate_left
 · rw [if_neg c8] at H
   exact absurd H (by simp)
 rw [if_pos c8] at H
 have c8b0 : decide ((ji6) < (l0.length : Int)) = true := decide_eq_true c8
 clear c8
 by_cases c9 : ((rd_T55 l0 (ji6)).f1) ≥ 99
 · rw [if_pos c9] at H
   have c9b0 : decide (99 ≤ ((rd_T55 l0 (ji6)).f1)) = true := decide_eq_true c9
   clear c9
   simp only [Option.some.injEq, Prod.mk.injEq] at H
   obtain ⟨rfl, rfl, rfl⟩ := H
   obtain ⟨Ao10, co10, eo10⟩ := Kd.R_slice HO0.out
   subst eo10
   go_enter Try.func97, Try.ntmps97
   go_wp2_with (first | ((with_reducible refine gate_callee (f := 98) rfl ?_); refine gl Try.func98 12 #[.slice Ao10 l0.length co10, .string a1] rfl rfl rfl ?_; (with_reducible refine (spec_l2Find.calls k _ _ l0 a1 t220 t221 _ ?side1 ?side2 A3.out).mono ?_); (case side1 => exact zc (Kd.R_reads' HO0.out).2.2); (case side2 => exact (Kd.R_reads' HO0.out).2.1); rintro e w' ⟨rfl, ⟨nd, rfl⟩⟩; refine ⟨_, rfl, ?_⟩; have p222 : 0 ≤ ((ji6) : Int) := of_decide_eq_true zl; have q222 : (ji6) < (l0.length : Int) := of_decide_eq_true zl; obtain ⟨ad222, e222, hx222_0, hx222_1⟩ := at_T55 (Kd.R_reads' HO0.out).2.2 (ji6) p222 q222; cases e222; replace p222 := eq_true p222; replace q222 := eq_true q222))
   go_ret3
   exact ⟨_, by first | rfl | (simp [errW_none, errW_some] <;> rfl) | (simp only [← hji6]; first | rfl | (simp [errW_none, errW_some] <;> rfl)) | (simp [*, errW_none, errW_some] <;> rfl), (zr HO0), (zb HB), (zq HK)⟩
 rw [if_neg c9] at H
 have c9b0 : decide (99 ≤ ((rd_T55 l0 (ji6)).f1)) = false := decide_eq_false c9
 clear c9
 obtain ⟨y224, hy224⟩ : ∃ y_ : List (S55), y_ = (l0.set ((ji6) : Int).toNat (⟨a1, wrap64 (((rd_T55 l0 (ji6)).f1) + 1)⟩ : S55)) := ⟨_, rfl⟩
 replace H : (some (y224, t220, true)) = some (r1, r2, r3) := hY hy224 H
 have Ny224 := am hy224
 clear hy224
 simp only [Option.some.injEq, Prod.mk.injEq] at H
 obtain ⟨rfl, rfl, rfl⟩ := H
 obtain ⟨Ao12, co12, eo12⟩ := Kd.R_slice HO0.out
 subst eo12
 go_enter Try.func97, Try.ntmps97
 go_wp2_with (first | ((with_reducible refine gate_callee (f := 98) rfl ?_); refine gl Try.func98 12 #[.slice Ao12 l0.length co12, .string a1] rfl rfl rfl ?_; (with_reducible refine (spec_l2Find.calls k _ _ l0 a1 t220 t221 _ ?side1 ?side2 A3.out).mono ?_); (case side1 => exact zc (Kd.R_reads' HO0.out).2.2); (case side2 => exact (Kd.R_reads' HO0.out).2.1); rintro e w' ⟨rfl, ⟨nd, rfl⟩⟩; refine ⟨_, rfl, ?_⟩; (try (rw [drewN_self w]; generalize hq_ : World.drewN w _ = wq_; replace HO0 : Aside0 (Kd.R k55 55 wq_ w0.heap.size (fun k_ => (P0_ k_ ∨ w.heap.size ≤ k_)) (.slice Ao12 l0.length co12) l0) := ⟨by rw [← hq_]; exact (zr HO0)⟩; replace HK : Aside0 (Kept w wq_ (fun k_ => P0_ k_)) := ⟨by rw [← hq_]; exact (zq HK)⟩; replace HB : Aside0 (Below w0.heap.size w0 wq_) := ⟨by rw [← hq_]; exact (zb HB)⟩; clear hq_)); have p222 : 0 ≤ ((ji6) : Int) := of_decide_eq_true zl; have q222 : (ji6) < (l0.length : Int) := of_decide_eq_true zl; obtain ⟨ad222, e222, hx222_0, hx222_1⟩ := at_T55 (Kd.R_reads' HO0.out).2.2 (ji6) p222 q222; cases e222; replace p222 := eq_true p222; replace q222 := eq_true q222; have p223 : 0 ≤ ((ji6) : Int) := of_decide_eq_true zl; have q223 : (ji6) < (l0.length : Int) := of_decide_eq_true zl; obtain ⟨ad223, e223, hx223_0, hx223_1⟩ := at_T55 (Kd.R_reads' HO0.out).2.2 (ji6) p223 q223; obtain rfl : ad222 = ad223 := (by injection e223); replace p223 := eq_true p223; replace q223 := eq_true q223; have p11 : 0 ≤ ((ji6) : Int) := of_decide_eq_true zl; have q11 : ((ji6) : Int) < ((l0.length : Int) : Int) := of_decide_eq_true zl; obtain ⟨go11, co11, eo11, gb11, gl11, cl11, HG11⟩ := Kd.R_form HO0.out (by omega); (first | cases eo11 | (injection eo11 with ea_ en_ ec_; (first | subst ea_ | (injection ea_ with ea_; subst ea_)); subst ec_; clear en_)); have GB11 := am gb11; have GG11 := am HG11; clear gb11 gl11 HG11; have HMgo11 := am (show (P0_ go11 ∨ w.heap.size ≤ go11) from (HO0.out.1 _ rfl)); (first | simp only [add_plain] at hx222_0 | skip); (first | simp only [add_plain] at hx222_1 | skip); (first | simp only [add_plain] at hx223_0 | skip); (first | simp only [add_plain] at hx223_1 | skip); obtain ⟨ce11, hcl11, hM11, hcc11, hfr11⟩ := Kd.R_elem HO0.out z55 ((ji6) : Int) p11 q11; obtain rfl := k55_openM hM11; have hx11_0 : wq_.cell? ⟨go11, ((ji6) : Int).toNat * 2, none⟩ = some (.string ((rd_T55 l0 (ji6)).f0)) := hcc11 0 _ rfl; have hx11_1 : wq_.cell? ⟨go11, ((ji6) : Int).toNat * 2 + 1, none⟩ = some (.int .i64 ((rd_T55 l0 (ji6)).f1)) := hcc11 1 _ rfl; have hf11_0 : wq_.frozen? ⟨go11, ((ji6) : Int).toNat * 2, none⟩ = false := hfr11 0; have hf11_1 : wq_.frozen? ⟨go11, ((ji6) : Int).toNat * 2 + 1, none⟩ = false := hfr11 1; clear hcl11 hcc11 hfr11 hM11; replace p11 := eq_true p11; replace q11 := eq_true q11; have HX13 := am (show Kd.R k55 55 wq_ w0.heap.size (fun k_ => (P0_ k_ ∨ w.heap.size ≤ k_)) (.slice (some ⟨go11, 0, none⟩) l0.length co12) l0 from (zr HO0)); obtain ⟨ce13, hcl13, hM13, hcc13, hfr13⟩ := Kd.R_elem HX13.out z55 ((ji6) : Int) (of_decide_eq_true zl) (by have h_ : ((ji6) : Int) < ((l0.length : Int) : Int) := of_decide_eq_true zl; first | exact h_ | (have e_ := (Kd.R_reads' HO0.out).1; omega) | simpa using h_); obtain rfl := k55_openM hM13; have HP13 := Kd.R_seg HX13.out ((ji6) : Int) (of_decide_eq_true zl) (by have h_ : ((ji6) : Int) < ((l0.length : Int) : Int) := of_decide_eq_true zl; first | exact h_ | (have e_ := (Kd.R_reads' HO0.out).1; omega) | simpa using h_) (seg := [.string a1, .int .i64 (wrap64 (((rd_T55 l0 (ji6)).f1) + 1))]) (j := 0) hcl13 hcc13 (show 2 ≤ 2 from by decide) (x' := (⟨a1, wrap64 (((rd_T55 l0 (ji6)).f1) + 1)⟩ : S55)) (k55_mkM _ _ _ (⟨a1, wrap64 (((rd_T55 l0 (ji6)).f1) + 1)⟩ : S55) ) (fun _ hk => hk); have hx13_0 := hcc13 0 _ rfl; (try simp only [show (k55).sz = 2 from rfl, Nat.mul_one, Nat.add_zero] at hx13_0); have hf13_0 := hfr13 0; (try simp only [show (k55).sz = 2 from rfl, Nat.mul_one, Nat.add_zero] at hf13_0); have hx13_1 := hcc13 1 _ rfl; (try simp only [show (k55).sz = 2 from rfl, Nat.mul_one, Nat.add_zero] at hx13_1); have hf13_1 := hfr13 1; (try simp only [show (k55).sz = 2 from rfl, Nat.mul_one, Nat.add_zero] at hf13_1); clear hcl13 hcc13 hfr13 hM13) | ((with_reducible refine gate_store (t := 55) (p := 39) rfl ?_); refine store_event (t := 55) (p := 39) (v := ?vo_w14) (w1 := ((wq_.setCell ⟨go11, ((ji6) : Int).toNat * 2, none⟩ (.string a1)).setCell ⟨go11, ((ji6) : Int).toNat * 2 + 1, none⟩ (.int .i64 (wrap64 (((rd_T55 l0 (ji6)).f1) + 1))))) ?hg ?ho ?hn ?hr ?_; (case ho => rfl); (case hg => rfl); (case hn => rfl); (case hr => first | (go_simp; done) | (go_simp; rfl)); intro w14 hw; have hg : wq_.grownBy w14 (some go11) := (by rw [hw]; exact HP13.2); have hp_ : Kd.R k55 55 w14 w0.heap.size (fun k_ => (P0_ k_ ∨ w.heap.size ≤ k_)) (.slice (some ⟨go11, 0, none⟩) l0.length co12) y224 := (by rw [hw, Ny224.out]; exact HP13.1); clear HP13; replace HB := am ((by rw [hw]; exact below_set (below_set (HB.out) GB11.out) GB11.out : Below w0.heap.size w0 w14)); replace HK := am (Kept.of_grown (S := (fun k_ => P0_ k_)) hg (zq HK) (fun k_ e_ => (HO0.out.1 k_ e_))); replace HO0 := am (hp_); clear hg hw hp_))
 go_ret3
 exact ⟨_, by first | rfl | (simp [errW_none, errW_some] <;> rfl) | (simp only [← hji6]; first | rfl | (simp [errW_none, errW_some] <;> rfl)) | (simp [*, errW_none, errW_some] <;> rfl), (zr HO0), (zb HB), (zq HK)⟩
end Go.Proofs.Ytooamacekmjpaaa.PFnPoolOnce
