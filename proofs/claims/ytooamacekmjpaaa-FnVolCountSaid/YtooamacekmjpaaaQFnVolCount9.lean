/- The walk: each function that the law comes to as a plain Lean function, and a proof that the Go code answers so. Written by this session's program over the kit's printer. -/
import Derived.Test.YtooamacekmjpaaaZ
import Derived.Test.YtooamacekmjpaaaQFnVolCount0
import Derived.Test.YtooamacekmjpaaaQFnVolCount1
import Derived.Test.YtooamacekmjpaaaQFnVolCount2
import Derived.Test.YtooamacekmjpaaaQFnVolCount6
import Derived.Test.YtooamacekmjpaaaQFnVolCount8
namespace Go.Proofs.Ytooamacekmjpaaa.PFnVolCount
open Go.RowKit Go.Proofs.YtooamacekmjpaaaW.PrintWords Go.Proofs.YtooamacekmjpaaaW.PrintLast Go.Proofs.YtooamacekmjpaaaW.PrintMore
attribute [local go_sem] max2_int min2_int max_two min_two max_three min_three max_four min_four   -- for this text's walks alone
set_option linter.unusedVariables false
set_option linter.unusedSimpArgs false
/-! ### spec_l71Ops: function 73 -/
def spec_l71Ops.l0 : Nat → Int → List (S103) → Int → List Int → Int → List (S55) → List (S38) → Option ((List (S103)) × (List (S55)) × (List (S38)) × Int)
 | 0, _, _, _, _, _, _, _ => none
 | k + 1, x1, x7, x8, x1000, x1001, x383000, x383001 => if x8 < x1 then ((spec_l71Fits.f k x1000 x1001 x383000 x383001).bind fun bt386 => ((spec_l11Copy.f k x383000 x383001).bind fun bt393 => ((spec_l12Do.f k bt393.1 bt393.2 bt386.1 bt386.2.1 bt386.2.2.1 bt386.2.2.2.1 bt386.2.2.2.2.1).bind fun bt399 => ((spec_OpOk.f k bt386.1 bt386.2.1 bt386.2.2.1 bt386.2.2.2.1 bt386.2.2.2.2.1).bind fun t407 => (if t407 = true then (if bt399.2.2 = true then (if x7.length < 2199023255552 then (spec_l71Ops.l0 k x1 (x7 ++ [(⟨bt386.1, bt386.2.1, bt386.2.2.1, bt386.2.2.2.1, bt386.2.2.2.2.1⟩ : S103)]) (wrap64 (x8 + 1)) x1000 bt386.2.2.2.2.2 bt399.1 bt399.2.1) else (none)) else (spec_l71Ops.l0 k x1 x7 (wrap64 (x8 + 1)) x1000 bt386.2.2.2.2.2 x383000 x383001)) else (spec_l71Ops.l0 k x1 x7 (wrap64 (x8 + 1)) x1000 bt386.2.2.2.2.2 x383000 x383001)))))) else (some (x7, x383000, x383001, x1001))
def spec_l71Ops.f (k : Nat) (s0_0 : List Int) (s0_1 : Int) (a1 : Int) : Option ((List (S103)) × (List (S55)) × (List (S38)) × Int) := (spec_PoolNew.f).bind fun bt376 => (spec_l71Ops.l0 k a1 (([] : List (S103))) 0 s0_0 s0_1 bt376.1 bt376.2)
theorem spec_l71Ops.mono_l : ∀ k, (∀ y0 y1 y2 y3 y4 y5 y6, LeO (spec_l71Ops.l0 k y0 y1 y2 y3 y4 y5 y6) (spec_l71Ops.l0 (k + 1) y0 y1 y2 y3 y4 y5 y6))
 | 0 => fun _ _ _ _ _ _ _ r h => by simp [spec_l71Ops.l0] at h
 | k + 1 => by
  have ih0 := spec_l71Ops.mono_l k
  intro y0 y1 y2 y3 y4 y5 y6
  unfold spec_l71Ops.l0
  exact mo5 ih0 @spec_OpOk.mono @spec_l11Copy.mono @spec_l12Do.mono @spec_l71Fits.mono
theorem spec_l71Ops.mono : ∀ a0 a1 a2 k, LeO (spec_l71Ops.f k a0 a1 a2) (spec_l71Ops.f (k + 1) a0 a1 a2) := by
 intro a0 a1 a2 k
 have ih0 := spec_l71Ops.mono_l k
 unfold spec_l71Ops.f
 exact mo5 ih0 @spec_OpOk.mono @spec_l11Copy.mono @spec_l12Do.mono @spec_l71Fits.mono
def spec_l71Ops.T7 : Bool × List (List Nat × List Nat) := (true, [([], []), ([0], [0]), ([], []), ([1, 2, 1], [1, 2]), ([3], [3]), ([4], [4]), ([4], [4]), ([], []), ([7, 5, 3, 0, 1, 2, 3, 4, 5, 7], [5, 7]), ([6, 8, 0, 1, 2, 3, 4, 5, 6, 7, 8], [6])])
def spec_l71Ops.B7 : List Nat := [0, 1, 0, 7, 15, 31, 31, 0, 191, 511]
theorem spec_l71Ops.tab7 : rtab .any (opsOf Try.f73 7) = spec_l71Ops.T7 := by kernel_rfl
theorem spec_l71Ops.bits7 : waitsOk spec_l71Ops.T7.2 spec_l71Ops.B7 = true := by kernel_rfl
set_option maxHeartbeats 8000000 in
set_option maxRecDepth 100000 in
theorem spec_l71Ops.calls (k : Nat) (g : Nat) (s0_0 : List Int) (s0_1 : Int) (a1 : Int) (r1 : List (S103)) (r2 : List (S55)) (r3 : List (S38)) (r4 : Int) (w0 w : World) (hI : IsS93 w0 w g s0_0 s0_1) (hB : Below w0.heap.size w0 w) (h : spec_l71Ops.f k s0_0 s0_1 a1 = some (r1, r2, r3, r4)) :
 Calls Try.prog 73 #[.pointer (some ⟨g, 0, none⟩), .int .i64 a1] w fun e w' => ∃ v0_ v1_ v2_ : Value, e = .returned (.tuple #[v0_, .agg #[v1_, v2_]]) ∧ Kd.R k103 103 w' w.heap.size (fun _ => True) v0_ r1 ∧ Kd.R k55 55 w' w.heap.size (fun _ => True) v1_ r2 ∧ Kd.S k38 38 w' w.heap.size (fun _ => True) v2_ r3 ∧ IsS93 w0 w' g s0_0 r4 ∧ Below w0.heap.size w0 w' ∧ KeepBut w w' g none := by
 have hu31 := Try.underlying31
 have hu103 := Try.underlying103
 have HI0 := am hI
 have HK := am (KeepBut.refl w g none)
 have HL := am hB.size
 clear hI
 have HW0 := am hB.size
 have HB := am hB
 clear hB
 have H : ((spec_PoolNew.f).bind fun bt376 => (spec_l71Ops.l0 k a1 (([] : List (S103))) 0 s0_0 s0_1 bt376.1 bt376.2)) = some (r1, r2, r3, r4) := h
 clear h
 replace H := obs H
 obtain ⟨⟨t376, t379⟩, A30, H⟩ := H
 replace H : (spec_l71Ops.l0 k a1 (([] : List (S103))) 0 s0_0 s0_1 t376 t379) = some (r1, r2, r3, r4) := H
 have A3 := am A30
 clear A30
 obtain ⟨y383, hy383⟩ : ∃ y_ : List (S103), y_ = (([] : List (S103))) := ⟨_, rfl⟩
 replace H : (spec_l71Ops.l0 k a1 y383 0 s0_0 s0_1 t376 t379) = some (r1, r2, r3, r4) := hY hy383 H
 have Ny383 := am hy383
 clear hy383
 have H' := am H
 clear H
 go_enter Try.func73, Try.ntmps73
 go_wp2_with (first | ((with_reducible refine gate_dst (N := 5) rfl ?_); refine bx 31 #[.slice none 0 0, .slice none 0 0] ?_; intro gb375 hg w4 hbox hb; replace HB := am (below_step (zb HB) hb); have BK375 := am (hbox); have GW375 := am (zm hg (zh HK)); have GE375 := am ((Nat.le_trans HW0.out (zm hg (zh HK)))); replace HK := am (KeepBut.trans (zh HK) (KeepBut.of_below hb g none) (.inl rfl)); have NB0_375 := am (ix hg (zi HI0)); have NB375_0 := am (iy hg (zi HI0)); replace HI0 := am (IsS93.below (zi HI0) hb); clear hb hbox hg) | ((with_reducible refine gate_callee (f := 79) rfl ?_); refine gl Try.func79 12 #[] rfl rfl rfl ?_; (with_reducible refine (spec_PoolNew.calls  t376 t379 _ A3.out).mono ?_); rintro e w5 ⟨v377, v380, rfl, ho0, ho1, hb⟩; refine ⟨_, rfl, ?_⟩; have HO378 := am (Kd.R_lower ho0 (keep_size (zh HK))); have HO381 := am (Kd.S_lower ho1 (keep_size (zh HK))); replace HI0 := am (IsS93.below (zi HI0) hb); replace BK375 := am (blk_below (zk BK375) hb); replace HK := am (KeepBut.trans (zh HK) (KeepBut.of_below hb g none) (.inl rfl)); replace HB := am (below_step (zb HB) hb); (try clear hb); (try clear hb2); (try clear hk); (try clear hi); (try clear ho0); (try clear ho1)) | ((with_reducible refine gate_dst (N := 6) rfl ?_); refine bx 31 #[.slice none 0 0, .slice none 0 0] ?_; intro gb382 hg w6 hbox hb; replace HO378 := am (Kd.R_below (zr HO378) hb); replace HO381 := am (Kd.S_below (zs HO381) hb); replace HB := am (below_step (zb HB) hb); have BK382 := am (hbox); have GW382 := am (zm hg (zh HK)); have GE382 := am ((Nat.le_trans HW0.out (zm hg (zh HK)))); replace HK := am (KeepBut.trans (zh HK) (KeepBut.of_below hb g none) (.inl rfl)); have NB375_382 := am (zx hg (zk BK375)); have NB382_375 := am (zy hg (zk BK375)); replace BK375 := am (blk_below (zk BK375) hb); have NB0_382 := am (ix hg (zi HI0)); have NB382_0 := am (iy hg (zi HI0)); replace HI0 := am (IsS93.below (zi HI0) hb); clear hb hbox hg; obtain ⟨Ao7, co7, eo7⟩ := Kd.R_slice HO378.out; subst eo7; have hnb8 := NB382_375.out; have hnc8 := NB375_382.out; have hnb9 := NB382_0.out; have hnc9 := NB0_382.out; have hcz10_0 := ce0 BK382; have hcz10_1 := ce1 BK382; have hfz10_0 := bfz BK382 0; have hfz10_1 := bfz BK382 1; obtain ⟨Ao11, co11, eo11⟩ := Kd.S_slice HO381.out; subst eo11) | ((with_reducible refine gate_dst (N := 13) rfl ?_); refine Kd.R_lit k103 _ 103 ?hg (N := 13) ?hd (xs := ([] : List (S103))) (inner := []) (ok := fun _ => True) (okp := fun _ => True) ?hr ?hp (fun _ hk => hk) trivial (Below.refl _ _) (Nat.le_refl _) (by simp) ?_; (case hd => rfl); (case hg => rfl); (case hr => first | (go_simp; done) | (go_simp; rfl)); (case hp => exact (Reps.none _ _)); intro v384 w12 ho13 hb hg_ hnew_; clear hg_ hnew_; (first | rw [← Ny383.out] at ho13 | (simp only [Int.reduceToNat] at ho13; rw [← Ny383.out] at ho13)); replace HO378 := am (Kd.R_below (rf HO378 BK382) hb); replace HO381 := am (Kd.S_below (sf HO381 BK382) hb); have HO385 := am (Kd.R_lower ho13 (keep_size (zh HK))); replace HI0 := am (IsS93.below (zi HI0) hb); replace BK375 := am (blk_below (zk BK375) hb); replace BK382 := am (blk_below (g := gb382) (o := .cells #[.slice Ao7 t376.length co7, .slice Ao11 t379.length co11] 31 (0, 0)) (zp BK382) hb); replace HK := am (KeepBut.trans (zh HK) (KeepBut.of_below hb g none) (.inl rfl)); replace HB := am (below_step (zb HB) hb); clear hb ho13))
 go_loopg [7, 8] k (fun kq v7 v8 w' => ∃ (x7_1 : List (S103)) (x8_1 : Int) (x1001_1 : Int) (x383000_1 : List (S55)) (x383001_1 : List (S38)) (u383000 : Value) (u383001 : Value), v8 = .int .i64 x8_1 ∧ Aside0 (spec_l71Ops.l0 kq a1 x7_1 x8_1 s0_0 x1001_1 x383000_1 x383001_1 = some (r1, r2, r3, r4)) ∧ Aside0 (kq ≤ k) ∧ Aside0 (Kd.R k103 103 w' w.heap.size (fun _ => True) v7 x7_1) ∧ Aside0 (Kd.R k55 55 w' w.heap.size (fun _ => True) u383000 x383000_1) ∧ Aside0 (Kd.S k38 38 w' w.heap.size (fun _ => True) u383001 x383001_1) ∧ Aside0 (w'.heap[gb375]? = some (.cells #[(.slice none 0 0), (.slice none 0 0)] 31 (0, 0))) ∧ Aside0 (w'.heap[gb382]? = some (.cells #[u383000, u383001] 31 (0, 0))) ∧ Aside0 (IsS93 w0 w' g s0_0 x1001_1) ∧ Aside0 (KeepBut w w' g none) ∧ Aside0 (Below w0.heap.size w0 w'))
 case atStart => exact ⟨(y383), (0), (s0_1), (t376), (t379), (.slice Ao7 t376.length co7), (.slice Ao11 t379.length co11), ze, H', ⟨Nat.le_refl _⟩, ⟨zr HO385⟩, ⟨zr HO378⟩, ⟨zs HO381⟩, ⟨zk BK375⟩, ⟨zk BK382⟩, ⟨zi HI0⟩, ⟨zh HK⟩, ⟨zb HB⟩⟩
 case round =>
  clear H'
  try clear p2
  try clear c7
  try clear c8
  try clear c9
  try clear hcz10_0
  try clear hcz10_1
  try clear hfz10_0
  try clear hfz10_1
  obtain ⟨x7_1, x8_1, x1001_1, x383000_1, x383001_1, u383000, u383001, rfl, HA, HK1, HO_7, HO_383000, HO_383001, BK375, BK382, HI0, HK, HB⟩ := hrel
  cases gk with
  | zero => exact absurd HA.out (by simp [spec_l71Ops.l0])
  | succ k1 =>
   have H := HA.out
   clear HA
   simp only [spec_l71Ops.l0] at H
   by_cases c14 : x8_1 < a1
   rotate_left
   · rw [if_neg c14] at H
     have c14b0 : decide (x8_1 < a1) = false := decide_eq_false c14
     clear c14
     simp only [Option.some.injEq, Prod.mk.injEq] at H
     obtain ⟨rfl, rfl, rfl, rfl⟩ := H
     try go_wp2
     replace HO_7 := am (Kd.R_drew HO_7.out)
     replace HO_383000 := am (Kd.R_drew HO_383000.out)
     replace HO_383001 := am (Kd.S_drew HO_383001.out)
     replace BK375 := am (blk_drew BK375.out)
     replace BK382 := am (blk_drew BK382.out)
     replace HI0 := am (IsS93.drew HI0.out)
     replace HK := am (keep_drew HK.out)
     replace HB := am (below_drew1 HB.out)
     obtain ⟨Ao108, co108, eo108⟩ := Kd.R_slice HO_383000.out
     (first | subst eo108 | (injection eo108 with f1_ f2_ f3_; have f4_ := f1_.symm; have f5_ := f3_.symm; clear f1_ f2_ f3_; subst f4_; subst f5_))
     obtain ⟨Ao110, co110, eo110⟩ := Kd.S_slice HO_383001.out
     (first | subst eo110 | (injection eo110 with f1_ f2_ f3_; have f4_ := f1_.symm; have f5_ := f3_.symm; clear f1_ f2_ f3_; subst f4_; subst f5_))
     refine start_ (n := 4) (S := fun w' => w'.cell? ⟨gb382, 0, none⟩ = some (.slice Ao108 x383000_1.length co108) ∧ w'.cell? ⟨gb382, 1, none⟩ = some (.slice Ao110 x383001_1.length co110)) (ds := []) (bs 4 0) (by kernel_rfl) rfl rfl ⟨ce0 BK382, ce1 BK382⟩ (fun hHeld => ?_)
     generalize wr.drew = w107 at HO_7 HO_383000 HO_383001 BK375 BK382 HI0 HK HB hHeld ⊢
     refine pu 0 39 4 1 rfl rfl ?_
     refine pu 2 4 4 5 rfl rfl ?_
     refine ta2 1 40 4 7 rfl rfl hHeld ?_
     refine oz 3 4 15 rfl rfl (fun K hK => ?_)
     have hs109 := ce0 BK375
     have hfs109 := bfz BK375 0
     have hns109_1 := NB382_375.out
     have hms109_1 := NB375_382.out
     have hs111 := ce1 BK375
     have hfs111 := bfz BK375 1
     have hns111_1 := NB382_375.out
     have hms111_1 := NB375_382.out
     refine skip_ (w1 := ?_) (by rfl) rfl ?_ ?_
     rotate_left
     · go_simp
       rfl
     refine hK.out _ _ ⟨((cell_far (p := ⟨gb375, _, none⟩) NB382_375.out _).trans (((cell_far (p := ⟨gb375, _, none⟩) NB382_375.out _).trans (hHeld.1)))), ((cell_far (p := ⟨gb375, _, none⟩) NB382_375.out _).trans (((cell_far (p := ⟨gb375, _, none⟩) NB382_375.out _).trans (hHeld.2))))⟩ (fun hHeld => ?_)
     clear hK K
     refine done_ (by kernel_rfl) ?_
     try go_wp2
     refine bodyPost_ret (results_tc rfl _ _ gb375 31 #[.slice Ao108 x383000_1.length co108, .slice Ao110 x383001_1.length co110] (0, 0) _ rfl (zp BK375) Try.underlying31 rfl (by kernel_rfl)) rfl ?_
     exact ⟨_, _, _, zw, by (with_reducible repeat (first | apply Kd.R_alloc | apply Kd.R_drewN | apply Kd.R_drew)); exact Kd.R_mono (Kd.R_far (p := ⟨gb375, 1, none⟩) (Kd.R_far (p := ⟨gb375, 0, none⟩) (Kd.R_types HO_7.out BK375.out (by decide)) (fun _ hk => hk.2) (.slice Ao108 x383000_1.length co108)) (fun _ hk => hk.2) (.slice Ao110 x383001_1.length co110)) (fun _ hk => trivial), by (with_reducible repeat (first | apply Kd.R_alloc | apply Kd.R_drewN | apply Kd.R_drew)); exact Kd.R_mono (Kd.R_far (p := ⟨gb375, 1, none⟩) (Kd.R_far (p := ⟨gb375, 0, none⟩) (Kd.R_types HO_383000.out BK375.out (by decide)) (fun _ hk => hk.2) (.slice Ao108 x383000_1.length co108)) (fun _ hk => hk.2) (.slice Ao110 x383001_1.length co110)) (fun _ hk => trivial), by (with_reducible repeat (first | apply Kd.S_alloc | apply Kd.S_drewN | apply Kd.S_drew)); exact Kd.S_mono (Kd.S_far (p := ⟨gb375, 1, none⟩) (Kd.S_far (p := ⟨gb375, 0, none⟩) (Kd.S_types HO_383001.out BK375.out (by decide)) (fun _ hk => hk.2) (.slice Ao108 x383000_1.length co108)) (fun _ hk => hk.2) (.slice Ao110 x383001_1.length co110)) (fun _ hk => trivial), (zi HI0), (zb HB), (zh HK)⟩
   rw [if_pos c14] at H
   have c14b0 : decide (x8_1 < a1) = true := decide_eq_true c14
   clear c14
   replace H := obs H
   obtain ⟨⟨t386, t387, t388, t389, t390, t391⟩, A150, H⟩ := H
   replace H : ((spec_l11Copy.f k1 x383000_1 x383001_1).bind fun bt393 => ((spec_l12Do.f k1 bt393.1 bt393.2 t386 t387 t388 t389 t390).bind fun bt399 => ((spec_OpOk.f k1 t386 t387 t388 t389 t390).bind fun t407 => (if t407 = true then (if bt399.2.2 = true then (if x7_1.length < 2199023255552 then (spec_l71Ops.l0 k1 a1 (x7_1 ++ [(⟨t386, t387, t388, t389, t390⟩ : S103)]) (wrap64 (x8_1 + 1)) s0_0 t391 bt399.1 bt399.2.1) else (none)) else (spec_l71Ops.l0 k1 a1 x7_1 (wrap64 (x8_1 + 1)) s0_0 t391 x383000_1 x383001_1)) else (spec_l71Ops.l0 k1 a1 x7_1 (wrap64 (x8_1 + 1)) s0_0 t391 x383000_1 x383001_1))))) = some (r1, r2, r3, r4) := H
   have A15 := am A150
   clear A150
   replace H := obs H
   obtain ⟨⟨t393, t396⟩, A160, H⟩ := H
   replace H : ((spec_l12Do.f k1 t393 t396 t386 t387 t388 t389 t390).bind fun bt399 => ((spec_OpOk.f k1 t386 t387 t388 t389 t390).bind fun t407 => (if t407 = true then (if bt399.2.2 = true then (if x7_1.length < 2199023255552 then (spec_l71Ops.l0 k1 a1 (x7_1 ++ [(⟨t386, t387, t388, t389, t390⟩ : S103)]) (wrap64 (x8_1 + 1)) s0_0 t391 bt399.1 bt399.2.1) else (none)) else (spec_l71Ops.l0 k1 a1 x7_1 (wrap64 (x8_1 + 1)) s0_0 t391 x383000_1 x383001_1)) else (spec_l71Ops.l0 k1 a1 x7_1 (wrap64 (x8_1 + 1)) s0_0 t391 x383000_1 x383001_1)))) = some (r1, r2, r3, r4) := H
   have A16 := am A160
   clear A160
   replace H := obs H
   obtain ⟨⟨t399, t402, t405⟩, A170, H⟩ := H
   replace H : ((spec_OpOk.f k1 t386 t387 t388 t389 t390).bind fun t407 => (if t407 = true then (if t405 = true then (if x7_1.length < 2199023255552 then (spec_l71Ops.l0 k1 a1 (x7_1 ++ [(⟨t386, t387, t388, t389, t390⟩ : S103)]) (wrap64 (x8_1 + 1)) s0_0 t391 t399 t402) else (none)) else (spec_l71Ops.l0 k1 a1 x7_1 (wrap64 (x8_1 + 1)) s0_0 t391 x383000_1 x383001_1)) else (spec_l71Ops.l0 k1 a1 x7_1 (wrap64 (x8_1 + 1)) s0_0 t391 x383000_1 x383001_1))) = some (r1, r2, r3, r4) := H
   have A17 := am A170
   clear A170
   replace H := obs H
   obtain ⟨t407, A180, H⟩ := H
   replace H : (if t407 = true then (if t405 = true then (if x7_1.length < 2199023255552 then (spec_l71Ops.l0 k1 a1 (x7_1 ++ [(⟨t386, t387, t388, t389, t390⟩ : S103)]) (wrap64 (x8_1 + 1)) s0_0 t391 t399 t402) else (none)) else (spec_l71Ops.l0 k1 a1 x7_1 (wrap64 (x8_1 + 1)) s0_0 t391 x383000_1 x383001_1)) else (spec_l71Ops.l0 k1 a1 x7_1 (wrap64 (x8_1 + 1)) s0_0 t391 x383000_1 x383001_1)) = some (r1, r2, r3, r4) := H
   have A18 := am A180
   clear A180
   have HH_ := am H
   clear H
   have hnb81 := NB382_375.out
   have hnc81 := NB375_382.out
   have hnb82 := NB382_0.out
   have hnc82 := NB0_382.out
   have hcz83_0 := ce0 BK382
   have hcz83_1 := ce1 BK382
   have hfz83_0 := bfz BK382 0
   have hfz83_1 := bfz BK382 1
   obtain ⟨Ao84, co84, eo84⟩ := Kd.R_slice HO_383000.out
   subst eo84
   obtain ⟨Ao85, co85, eo85⟩ := Kd.S_slice HO_383001.out
   subst eo85
   try go_wp2_with (first | ((with_reducible refine gate_callee (f := 80) rfl ?_); refine gl Try.func80 21 #[.pointer (some ⟨g, 0, none⟩), .agg #[.slice Ao84 x383000_1.length co84, .slice Ao85 x383001_1.length co85]] rfl rfl rfl ?_; (with_reducible refine (spec_l71Fits.calls k1 g s0_0 x1001_1 _ _ x383000_1 _ _ x383001_1 t386 t387 t388 t389 t390 t391 w0 _ ?side1 ?side2 ?side3 ?side4 ?side5 ?side6 A15.out).mono ?_); (case side1 => exact zi HI0); (case side2 => exact zb HB); (case side3 => exact Kd.C_foot_own (IsS93.apart (zi HI0) (zr HO_383000) (by decide)) (fun _ h_ => h_.2)); (case side4 => exact (Kd.R_reads' HO_383000.out).2.1); (case side5 => exact Kd.C_foot_own ((Kd.S_R (IsS93.apartS (zi HI0) (zs HO_383001) (by decide)))) (fun _ h_ => h_.2)); (case side6 => exact (Kd.S_reads' HO_383001.out).2.1); rintro e w86 ⟨rfl, hi, hb, hk⟩; refine ⟨_, rfl, ?_⟩; replace HO_7 := am (Kd.R_mono (Kd.R_keep (IsS93.apart (zi HI0) (zr HO_7) (by decide)) hk (fun _ h => h.2)) (fun _ h => h.1)); replace HO_383000 := am (Kd.R_mono (Kd.R_keep (IsS93.apart (zi HI0) (zr HO_383000) (by decide)) hk (fun _ h => h.2)) (fun _ h => h.1)); replace HO_383001 := am (Kd.S_mono (Kd.S_keep (IsS93.apartS (zi HI0) (zs HO_383001) (by decide)) hk (fun _ h => h.2)) (fun _ h => h.1)); replace BK375 := am (KeepBut.blk hk (zk BK375) NB375_0.out (by simp)); replace BK382 := am (KeepBut.blk hk (zk BK382) NB382_0.out (by simp)); replace HK := am (KeepBut.trans (zh HK) hk (.inl rfl)); replace HB := am (hb); replace HI0 := am (hi); (try clear hb); (try clear hb2); (try clear hk); (try clear hi)) | ((with_reducible refine gate_dst (N := 9) rfl ?_); refine bx 103 #[.int .i64 0, .string (⟨#[]⟩ : ByteArray), .string (⟨#[]⟩ : ByteArray), .int .i64 0, .string (⟨#[]⟩ : ByteArray)] ?_; intro gb392 hg w87 hbox hb; replace HO_7 := am (Kd.R_below (Kd.R_elderB (zr HO_7) gb392 (Nat.le_of_eq hg.symm)) hb); replace HO_383000 := am (Kd.R_below (zr HO_383000) hb); replace HO_383001 := am (Kd.S_below (zs HO_383001) hb); replace HB := am (below_step (zb HB) hb); have BK392 := am (hbox); have GW392 := am (zm hg (zh HK)); have GE392 := am ((Nat.le_trans HW0.out (zm hg (zh HK)))); replace HK := am (KeepBut.trans (zh HK) (KeepBut.of_below hb g none) (.inl rfl)); have NB375_392 := am (zx hg (zk BK375)); have NB392_375 := am (zy hg (zk BK375)); replace BK375 := am (blk_below (zk BK375) hb); have NB382_392 := am (zx hg (zk BK382)); have NB392_382 := am (zy hg (zk BK382)); replace BK382 := am (blk_below (zk BK382) hb); have NB0_392 := am (ix hg (zi HI0)); have NB392_0 := am (iy hg (zi HI0)); replace HI0 := am (IsS93.below (zi HI0) hb); clear hb hbox hg; have hnb88 := NB392_375.out; have hnc88 := NB375_392.out; have hnb89 := NB392_382.out; have hnc89 := NB382_392.out; have hnb90 := NB392_0.out; have hnc90 := NB0_392.out; have hcz91_0 := ce0 BK392; have hcz91_1 := ce1 BK392; have hcz91_2 := ce2 BK392; have hcz91_3 := ce3 BK392; have hcz91_4 := ce4 BK392; have hfz91_0 := bfz BK392 0; have hfz91_1 := bfz BK392 1; have hfz91_2 := bfz BK392 2; have hfz91_3 := bfz BK392 3; have hfz91_4 := bfz BK392 4))
   have n0_ : Aside0 (Kd.R k103 103 (((((w87.setCell ⟨gb392, 0, none⟩ (.int .i64 t386)).setCell ⟨gb392, 1, none⟩ (.string t387)).setCell ⟨gb392, 2, none⟩ (.string t388)).setCell ⟨gb392, 3, none⟩ (.int .i64 t389)).setCell ⟨gb392, 4, none⟩ (.string t390)) w.heap.size (fun k_ => k_ ≠ gb392) u7 x7_1) := ⟨by (with_reducible repeat (first | apply Kd.R_alloc | apply Kd.R_drewN | apply Kd.R_drew)); exact Kd.R_mono (Kd.R_far (p := ⟨gb392, 4, none⟩) (Kd.R_far (p := ⟨gb392, 3, none⟩) (Kd.R_far (p := ⟨gb392, 2, none⟩) (Kd.R_far (p := ⟨gb392, 1, none⟩) (Kd.R_far (p := ⟨gb392, 0, none⟩) (Kd.R_mono HO_7.out (fun k_ hk => (⟨hk, hk.2⟩ : _ ∧ k_ ≠ gb392))) (fun _ hk => hk.2) (.int .i64 t386)) (fun _ hk => hk.2) (.string t387)) (fun _ hk => hk.2) (.string t388)) (fun _ hk => hk.2) (.int .i64 t389)) (fun _ hk => hk.2) (.string t390)) (fun _ hk => hk.1.2)⟩
   have n1_ : Aside0 (Kd.R k55 55 (((((w87.setCell ⟨gb392, 0, none⟩ (.int .i64 t386)).setCell ⟨gb392, 1, none⟩ (.string t387)).setCell ⟨gb392, 2, none⟩ (.string t388)).setCell ⟨gb392, 3, none⟩ (.int .i64 t389)).setCell ⟨gb392, 4, none⟩ (.string t390)) w.heap.size (fun _ => True) (.slice Ao84 x383000_1.length co84) x383000_1) := ⟨by (with_reducible repeat (first | apply Kd.R_alloc | apply Kd.R_drewN | apply Kd.R_drew)); exact Kd.R_mono (Kd.R_far (p := ⟨gb392, 4, none⟩) (Kd.R_far (p := ⟨gb392, 3, none⟩) (Kd.R_far (p := ⟨gb392, 2, none⟩) (Kd.R_far (p := ⟨gb392, 1, none⟩) (Kd.R_far (p := ⟨gb392, 0, none⟩) (Kd.R_types HO_383000.out BK392.out (by decide)) (fun _ hk => hk.2) (.int .i64 t386)) (fun _ hk => hk.2) (.string t387)) (fun _ hk => hk.2) (.string t388)) (fun _ hk => hk.2) (.int .i64 t389)) (fun _ hk => hk.2) (.string t390)) (fun _ hk => trivial)⟩
   have n2_ : Aside0 (Kd.S k38 38 (((((w87.setCell ⟨gb392, 0, none⟩ (.int .i64 t386)).setCell ⟨gb392, 1, none⟩ (.string t387)).setCell ⟨gb392, 2, none⟩ (.string t388)).setCell ⟨gb392, 3, none⟩ (.int .i64 t389)).setCell ⟨gb392, 4, none⟩ (.string t390)) w.heap.size (fun _ => True) (.slice Ao85 x383001_1.length co85) x383001_1) := ⟨by (with_reducible repeat (first | apply Kd.S_alloc | apply Kd.S_drewN | apply Kd.S_drew)); exact Kd.S_mono (Kd.S_far (p := ⟨gb392, 4, none⟩) (Kd.S_far (p := ⟨gb392, 3, none⟩) (Kd.S_far (p := ⟨gb392, 2, none⟩) (Kd.S_far (p := ⟨gb392, 1, none⟩) (Kd.S_far (p := ⟨gb392, 0, none⟩) (Kd.S_types HO_383001.out BK392.out (by decide)) (fun _ hk => hk.2) (.int .i64 t386)) (fun _ hk => hk.2) (.string t387)) (fun _ hk => hk.2) (.string t388)) (fun _ hk => hk.2) (.int .i64 t389)) (fun _ hk => hk.2) (.string t390)) (fun _ hk => trivial)⟩
   have n3_ : Aside0 ((((((w87.setCell ⟨gb392, 0, none⟩ (.int .i64 t386)).setCell ⟨gb392, 1, none⟩ (.string t387)).setCell ⟨gb392, 2, none⟩ (.string t388)).setCell ⟨gb392, 3, none⟩ (.int .i64 t389)).setCell ⟨gb392, 4, none⟩ (.string t390)).heap[gb375]? = some (.cells #[.slice none 0 0, .slice none 0 0] 31 (0, 0))) := ⟨zk BK375⟩
   have n4_ : Aside0 ((((((w87.setCell ⟨gb392, 0, none⟩ (.int .i64 t386)).setCell ⟨gb392, 1, none⟩ (.string t387)).setCell ⟨gb392, 2, none⟩ (.string t388)).setCell ⟨gb392, 3, none⟩ (.int .i64 t389)).setCell ⟨gb392, 4, none⟩ (.string t390)).heap[gb382]? = some (.cells #[.slice Ao84 x383000_1.length co84, .slice Ao85 x383001_1.length co85] 31 (0, 0))) := ⟨zk BK382⟩
   have n5_ : Aside0 ((((((w87.setCell ⟨gb392, 0, none⟩ (.int .i64 t386)).setCell ⟨gb392, 1, none⟩ (.string t387)).setCell ⟨gb392, 2, none⟩ (.string t388)).setCell ⟨gb392, 3, none⟩ (.int .i64 t389)).setCell ⟨gb392, 4, none⟩ (.string t390)).heap[gb392]? = some (.cells #[.int .i64 t386, .string t387, .string t388, .int .i64 t389, .string t390] 103 (0, 0))) := ⟨zp BK392⟩
   have n6_ : Aside0 (IsS93 w0 (((((w87.setCell ⟨gb392, 0, none⟩ (.int .i64 t386)).setCell ⟨gb392, 1, none⟩ (.string t387)).setCell ⟨gb392, 2, none⟩ (.string t388)).setCell ⟨gb392, 3, none⟩ (.int .i64 t389)).setCell ⟨gb392, 4, none⟩ (.string t390)) g s0_0 t391) := ⟨zi HI0⟩
   have n7_ : Aside0 (KeepBut w (((((w87.setCell ⟨gb392, 0, none⟩ (.int .i64 t386)).setCell ⟨gb392, 1, none⟩ (.string t387)).setCell ⟨gb392, 2, none⟩ (.string t388)).setCell ⟨gb392, 3, none⟩ (.int .i64 t389)).setCell ⟨gb392, 4, none⟩ (.string t390)) g none) := ⟨zh HK⟩
   have n8_ : Aside0 (Below w0.heap.size w0 (((((w87.setCell ⟨gb392, 0, none⟩ (.int .i64 t386)).setCell ⟨gb392, 1, none⟩ (.string t387)).setCell ⟨gb392, 2, none⟩ (.string t388)).setCell ⟨gb392, 3, none⟩ (.int .i64 t389)).setCell ⟨gb392, 4, none⟩ (.string t390))) := ⟨zb HB⟩
   (try clear HO_7)
   (try clear HO_383000)
   (try clear HO_383001)
   (try clear BK375)
   (try clear BK382)
   (try clear BK392)
   (try clear HI0)
   (try clear HK)
   (try clear HB)
   generalize (((((w87.setCell ⟨gb392, 0, none⟩ (.int .i64 t386)).setCell ⟨gb392, 1, none⟩ (.string t387)).setCell ⟨gb392, 2, none⟩ (.string t388)).setCell ⟨gb392, 3, none⟩ (.int .i64 t389)).setCell ⟨gb392, 4, none⟩ (.string t390)) = w92 at n0_ n1_ n2_ n3_ n4_ n5_ n6_ n7_ n8_ ⊢
   have HO_7 := n0_
   have HO_383000 := n1_
   have HO_383001 := n2_
   have BK375 := n3_
   have BK382 := n4_
   have BK392 := n5_
   have HI0 := n6_
   have HK := n7_
   have HB := n8_
   clear n0_ n1_ n2_ n3_ n4_ n5_ n6_ n7_ n8_
   replace HO_7 := am (Kd.R_drew HO_7.out)
   replace HO_383000 := am (Kd.R_drew HO_383000.out)
   replace HO_383001 := am (Kd.S_drew HO_383001.out)
   replace BK375 := am (blk_drew BK375.out)
   replace BK382 := am (blk_drew BK382.out)
   replace BK392 := am (blk_drew BK392.out)
   replace HI0 := am (IsS93.drew HI0.out)
   replace HK := am (keep_drew HK.out)
   replace HB := am (below_drew1 HB.out)
   refine start_ (n := 10) (S := fun w' => w'.cell? ⟨gb382, 0, none⟩ = some (.slice Ao84 x383000_1.length co84) ∧ w'.cell? ⟨gb382, 1, none⟩ = some (.slice Ao85 x383001_1.length co85) ∧ w'.cell? ⟨gb392, 0, none⟩ = some (.int .i64 t386) ∧ w'.cell? ⟨gb392, 1, none⟩ = some (.string t387) ∧ w'.cell? ⟨gb392, 2, none⟩ = some (.string t388) ∧ w'.cell? ⟨gb392, 3, none⟩ = some (.int .i64 t389) ∧ w'.cell? ⟨gb392, 4, none⟩ = some (.string t390)) (ds := []) (bs 10 0) (by kernel_rfl) rfl rfl ⟨ce0 BK382, ce1 BK382, ce0 BK392, ce1 BK392, ce2 BK392, ce3 BK392, ce4 BK392⟩ (fun hHeld => ?_); refine with_tabW spec_l71Ops.tab7 spec_l71Ops.bits7 (fun HT_ HW_ => ?_)
   generalize w92.drew = w93 at HO_7 HO_383000 HO_383001 BK375 BK382 BK392 HI0 HK HB hHeld ⊢
   refine ta7 0 23 10 1 rfl rfl hHeld ?_
   refine ta7 2 25 10 5 rfl rfl hHeld ?_
   refine join_ (σ := Value × Value × Value × Value × Nat) 2 (bs 10 255) (fun s_ => [(24, .agg #[s_.1, s_.2.1]), (26, .tuple #[.agg #[s_.2.2.1, s_.2.2.2.1], .bool t405]), (10, .pointer (some ⟨s_.2.2.2.2, 0, none⟩)), (22, .tuple #[.agg #[s_.2.2.1, s_.2.2.2.1], .bool t405]), (27, .agg #[s_.2.2.1, s_.2.2.2.1]), (28, .bool t405)]) (fun s_ w' => (w'.cell? ⟨gb382, 0, none⟩ = some (.slice Ao84 x383000_1.length co84) ∧ w'.cell? ⟨gb382, 1, none⟩ = some (.slice Ao85 x383001_1.length co85) ∧ w'.cell? ⟨gb392, 0, none⟩ = some (.int .i64 t386) ∧ w'.cell? ⟨gb392, 1, none⟩ = some (.string t387) ∧ w'.cell? ⟨gb392, 2, none⟩ = some (.string t388) ∧ w'.cell? ⟨gb392, 3, none⟩ = some (.int .i64 t389) ∧ w'.cell? ⟨gb392, 4, none⟩ = some (.string t390)) ∧ (Kd.R k55 55 w' w.heap.size (fun _ => True) s_.2.2.1 t399) ∧ (Kd.S k38 38 w' w.heap.size (fun _ => True) s_.2.2.2.1 t402) ∧ (Kd.R k55 55 w' w.heap.size (fun _ => True) (.slice Ao84 x383000_1.length co84) x383000_1) ∧ (Kd.S k38 38 w' w.heap.size (fun _ => True) (.slice Ao85 x383001_1.length co85) x383001_1) ∧ (Kd.R k103 103 w' w.heap.size (fun k_ => k_ ≠ gb392) u7 x7_1) ∧ (w'.heap[gb375]? = some (.cells #[.slice none 0 0, .slice none 0 0] 31 (0, 0))) ∧ (w'.heap[gb382]? = some (.cells #[.slice Ao84 x383000_1.length co84, .slice Ao85 x383001_1.length co85] 31 (0, 0))) ∧ (w'.heap[gb392]? = some (.cells #[.int .i64 t386, .string t387, .string t388, .int .i64 t389, .string t390] 103 (0, 0))) ∧ (w'.heap[s_.2.2.2.2]? = some (.cells #[.slice none 0 0, .slice none 0 0] 31 (0, 0))) ∧ (w.heap.size ≤ s_.2.2.2.2) ∧ (w0.heap.size ≤ s_.2.2.2.2) ∧ (g ≠ s_.2.2.2.2) ∧ (s_.2.2.2.2 ≠ g) ∧ (gb375 ≠ s_.2.2.2.2) ∧ (s_.2.2.2.2 ≠ gb375) ∧ (gb382 ≠ s_.2.2.2.2) ∧ (s_.2.2.2.2 ≠ gb382) ∧ (gb392 ≠ s_.2.2.2.2) ∧ (s_.2.2.2.2 ≠ gb392) ∧ (IsS93 w0 w' g s0_0 t391) ∧ (KeepBut w w' g none) ∧ (Below w0.heap.size w0 w')) ?_ ?_
   rotate_left
   · intro hCont
     refine two_ (i := 1) (j := 7) (Ni := some 24) (Nj := some 10) (bs 10 7) (bs 10 133) rfl rfl rfl rfl (two_of HT_.out (by kernel_rfl)) (by decide) (by decide) (fun K hK => ?_) (fun K hK => ?_)
     · skip
       refine gs Try.func82 #[.agg #[.slice Ao84 x383000_1.length co84, .slice Ao85 x383001_1.length co85]] rfl rfl ?_
       with_reducible refine (spec_l11Copy.calls k1 _ _ x383000_1 _ _ x383001_1 t393 t396 _ ?side1 ?side2 ?side3 ?side4 A16.out).mono ?_
       (case side1 => exact zc (Kd.R_reads' HO_383000.out).2.2)
       (case side2 => exact (Kd.R_reads' HO_383000.out).2.1)
       (case side3 => exact zc (Kd.S_reads' HO_383001.out).2.2)
       (case side4 => exact (Kd.S_reads' HO_383001.out).2.1)
       rintro e w94 ⟨v394, v397, rfl, ho0, ho1, hb⟩
       refine ⟨_, rfl, ?_⟩
       replace HO_7 := am (Kd.R_below (zr HO_7) hb)
       have HO395 := am (Kd.R_lower (Kd.R_new' ho0 (Kd.R_lt (zr HO_383000))) (keep_size (zh HK)))
       replace HO_383000 := am (Kd.R_elder' (zr HO_383000) (Kd.R_base ho0) hb)
       have HO398 := am (Kd.S_lower (Kd.S_new' ho1 (Kd.S_lt (zs HO_383001))) (keep_size (zh HK)))
       replace HO_383001 := am (Kd.S_elder' (zs HO_383001) (Kd.S_base ho1) hb)
       replace BK375 := am (blk_below (zk BK375) hb)
       replace BK382 := am (blk_below (zk BK382) hb)
       replace HI0 := am (IsS93.below (zi HI0) hb)
       replace BK392 := am (blk_below (zk BK392) hb)
       replace HK := am (KeepBut.trans (zh HK) (KeepBut.of_below hb g none) (.inl rfl))
       replace HB := am (below_step (zb HB) hb)
       (try clear hb)
       (try clear hb2)
       (try clear hk)
       (try clear hi)
       (try clear ho0)
       (try clear ho1)
       obtain ⟨Ao95, co95, eo95⟩ := Kd.R_slice HO395.out
       (first | subst eo95 | (injection eo95 with f1_ f2_ f3_; have f4_ := f1_.symm; have f5_ := f3_.symm; clear f1_ f2_ f3_; subst f4_; subst f5_))
       obtain ⟨Ao96, co96, eo96⟩ := Kd.S_slice HO398.out
       (first | subst eo96 | (injection eo96 with f1_ f2_ f3_; have f4_ := f1_.symm; have f5_ := f3_.symm; clear f1_ f2_ f3_; subst f4_; subst f5_))
       refine hK.out _ _ ⟨ce0 BK382, ce1 BK382, ce0 BK392, ce1 BK392, ce2 BK392, ce3 BK392, ce4 BK392⟩ (fun hHeld => ?_)
       clear hK K
       refine norm_ (a' := ?_) ?_ ?_
       rotate_left
       · show Act.put _ (some 24) _ = _
         simp only [Act.put, List.setIfInBounds_toArray, List.set_cons_zero, List.set_cons_succ, i64_w, i32_w]
         rfl
       refine two_ (i := 3) (j := 7) (Ni := some 26) (Nj := some 10) (bs 10 15) (bs 10 135) rfl rfl rfl rfl (two_of HT_.out (by kernel_rfl)) (by decide) (by decide) (fun K hK => ?_) (fun K hK => ?_)
       · skip
         refine gs Try.func81 #[.agg #[.slice Ao95 t393.length co95, .slice Ao96 t396.length co96], .agg #[.int .i64 t386, .string t387, .string t388, .int .i64 t389, .string t390]] rfl rfl ?_
         with_reducible refine (spec_l12Do.callsB k1 (fun k_ => some k_ = (.slice Ao95 t393.length co95 : Value).ownBlock) (.slice Ao95 t393.length co95) t393 (fun k_ => some k_ = (.slice Ao96 t396.length co96 : Value).ownBlock) (.slice Ao96 t396.length co96) t396 t386 t387 t388 t389 t390 t399 t402 t405 w0 _ w.heap.size ?side1 HL.out ?sbw ?side2 ?side3 A17.out).mono ?_
         (case side1 => exact zb HB)
         (case side2 => exact Kd.R_tight rfl HO395.out)
         (case side3 => exact Kd.S_mono (HO398.out) (fun _ _ => trivial))
         (case sbw => exact keep_size (w := w) (g := g) (row := none) (zh HK))
         rintro e w97 ⟨v400, v403, rfl, ho0, ho1, hb, hkp⟩
         refine ⟨_, rfl, ?_⟩
         replace HO_7 := am (Kd.R_mono (ok' := fun k_ => k_ ≠ gb392) (Kd.R_keptB ((Kd.R_apart' (Kd.R_apart' HO_7.out (Kd.R_typed HO395.out) (by decide)) (Kd.S_typed HO398.out) (by decide))) hkp (fun k_ hk_ hs_ => Or.elim hs_ (fun e_ => (hk_.1.2) e_) (fun e_ => (hk_.2) e_))) (fun k_ hk_ => hk_.1.1.1))
         replace HO_383000 := am (Kd.R_mono (ok' := fun k_ => True) (Kd.R_keptB ((Kd.R_apart' HO_383000.out (Kd.S_typed HO398.out) (by decide))) hkp (fun k_ hk_ hs_ => Or.elim hs_ (fun e_ => (hk_.1.2) e_) (fun e_ => (hk_.2) e_))) (fun k_ hk_ => trivial))
         replace HO_383001 := am (Kd.S_mono (ok' := fun k_ => True) (Kd.S_keptB ((Kd.S_apart' HO_383001.out (Kd.R_typed HO395.out) (by decide))) hkp (fun k_ hk_ hs_ => Or.elim hs_ (fun e_ => (hk_.2) e_) (fun e_ => (hk_.1.2) e_))) (fun k_ hk_ => trivial))
         replace BK375 := am (blk_kept (zk BK375) hkp (fun hs_ => Or.elim hs_ (fun e_ => (fun e_ => (Kd.R_ne HO395.out BK375.out (by decide)) e_) e_) (fun e_ => (fun e_ => (Kd.S_ne HO398.out BK375.out (by decide)) e_) e_)))
         replace BK382 := am (blk_kept (zk BK382) hkp (fun hs_ => Or.elim hs_ (fun e_ => (fun e_ => (Kd.R_ne HO395.out BK382.out (by decide)) e_) e_) (fun e_ => (fun e_ => (Kd.S_ne HO398.out BK382.out (by decide)) e_) e_)))
         replace HI0 := am (IsS93.kept (zi HI0) hkp (fun hs_ => Or.elim hs_ (fun e_ => (fun e_ => (IsS93.own_ne HI0.out HO395.out (by decide)) e_) e_) (fun e_ => (fun e_ => (IsS93.own_neS HI0.out HO398.out (by decide)) e_) e_)))
         replace BK392 := am (blk_kept (zk BK392) hkp (fun hs_ => Or.elim hs_ (fun e_ => (fun e_ => (Kd.R_ne HO395.out BK392.out (by decide)) e_) e_) (fun e_ => (fun e_ => (Kd.S_ne HO398.out BK392.out (by decide)) e_) e_)))
         have HO401 := am (ho0)
         have HO404 := am (ho1)
         replace HK := am (Kept.keepG (zh HK) hkp (fun k_ hs_ => Or.elim hs_ (fun e_ => (fun e_ => .inr (Kd.R_base HO395.out k_ e_.symm)) e_) (fun e_ => (fun e_ => .inr (Kd.S_base HO398.out k_ e_.symm)) e_)))
         replace HB := am (hb)
         clear HO395 HO398
         (try clear hb)
         (try clear hkp)
         (try clear ho0)
         (try clear ho1)
         refine hK.out _ _ ⟨ce0 BK382, ce1 BK382, ce0 BK392, ce1 BK392, ce2 BK392, ce3 BK392, ce4 BK392⟩ (fun hHeld => ?_)
         clear hK K
         refine norm_ (a' := ?_) ?_ ?_
         rotate_left
         · show Act.put _ (some 26) _ = _
           simp only [Act.put, List.setIfInBounds_toArray, List.set_cons_zero, List.set_cons_succ, i64_w, i32_w]
           rfl
         refine pu 4 22 10 31 rfl rfl ?_
         refine pu 5 27 10 63 rfl rfl ?_
         refine pu 6 28 10 127 rfl rfl ?_
         refine oz 7 10 255 rfl rfl (fun K hK => ?_)
         refine box_step ?hg (N := 10) ?hd (cs := #[.slice none 0 0, .slice none 0 0]) (t := 31) ?hr ?_; (case hd => rfl); (case hg => rfl); (case hr => first | (go_simp; done) | (go_simp; rfl))
         intro gb406 hg w98 hbox hb
         replace HO_7 := am (Kd.R_below (zr HO_7) hb)
         replace HO_383000 := am (Kd.R_below (zr HO_383000) hb)
         replace HO_383001 := am (Kd.S_below (zs HO_383001) hb)
         replace HO401 := am (Kd.R_below (zr HO401) hb)
         replace HO404 := am (Kd.S_below (zs HO404) hb)
         replace HB := am (below_step (zb HB) hb)
         have BK406 := am (hbox)
         have GW406 := am (zm hg (zh HK))
         have GE406 := am ((Nat.le_trans HW0.out (zm hg (zh HK))))
         replace HK := am (KeepBut.trans (zh HK) (KeepBut.of_below hb g none) (.inl rfl))
         have NB375_406 := am (zx hg (zk BK375))
         have NB406_375 := am (zy hg (zk BK375))
         replace BK375 := am (blk_below (zk BK375) hb)
         have NB382_406 := am (zx hg (zk BK382))
         have NB406_382 := am (zy hg (zk BK382))
         replace BK382 := am (blk_below (zk BK382) hb)
         have NB392_406 := am (zx hg (zk BK392))
         have NB406_392 := am (zy hg (zk BK392))
         replace BK392 := am (blk_below (zk BK392) hb)
         have NB0_406 := am (ix hg (zi HI0))
         have NB406_0 := am (iy hg (zi HI0))
         replace HI0 := am (IsS93.below (zi HI0) hb)
         clear hb hbox hg
         refine hK.out _ _ ⟨ce0 BK382, ce1 BK382, ce0 BK392, ce1 BK392, ce2 BK392, ce3 BK392, ce4 BK392⟩ (fun hHeld => ?_)
         clear hK K
         refine norm_ (a' := ?_) ?_ ?_
         rotate_left
         · show Act.put _ (some 10) _ = _
           simp only [Act.put, List.setIfInBounds_toArray, List.set_cons_zero, List.set_cons_succ, i64_w, i32_w]
           rfl
         exact norm_ (by simp only [putAll, Act.put, List.setIfInBounds_toArray, List.set_cons_zero, List.set_cons_succ]) (hCont (.slice Ao95 t393.length co95, .slice Ao96 t396.length co96, v400, v403, gb406) _ ⟨hHeld, (zr HO401), (zs HO404), (zr HO_383000), (zs HO_383001), (zr HO_7), (zk BK375), (zk BK382), (zk BK392), (zk BK406), GW406.out, GE406.out, NB0_406.out, NB406_0.out, NB375_406.out, NB406_375.out, NB382_406.out, NB406_382.out, NB392_406.out, NB406_392.out, (zi HI0), (zh HK), (zb HB)⟩)
       skip
       refine box_step ?hg (N := 10) ?hd (cs := #[.slice none 0 0, .slice none 0 0]) (t := 31) ?hr ?_; (case hd => rfl); (case hg => rfl); (case hr => first | (go_simp; done) | (go_simp; rfl))
       intro gb406 hg w95 hbox hb
       replace HO_7 := am (Kd.R_below (zr HO_7) hb)
       replace HO_383000 := am (Kd.R_below (zr HO_383000) hb)
       replace HO_383001 := am (Kd.S_below (zs HO_383001) hb)
       replace HO395 := am (Kd.R_below (zr HO395) hb)
       replace HO398 := am (Kd.S_below (zs HO398) hb)
       replace HB := am (below_step (zb HB) hb)
       have BK406 := am (hbox)
       have GW406 := am (zm hg (zh HK))
       have GE406 := am ((Nat.le_trans HW0.out (zm hg (zh HK))))
       replace HK := am (KeepBut.trans (zh HK) (KeepBut.of_below hb g none) (.inl rfl))
       have NB375_406 := am (zx hg (zk BK375))
       have NB406_375 := am (zy hg (zk BK375))
       replace BK375 := am (blk_below (zk BK375) hb)
       have NB382_406 := am (zx hg (zk BK382))
       have NB406_382 := am (zy hg (zk BK382))
       replace BK382 := am (blk_below (zk BK382) hb)
       have NB392_406 := am (zx hg (zk BK392))
       have NB406_392 := am (zy hg (zk BK392))
       replace BK392 := am (blk_below (zk BK392) hb)
       have NB0_406 := am (ix hg (zi HI0))
       have NB406_0 := am (iy hg (zi HI0))
       replace HI0 := am (IsS93.below (zi HI0) hb)
       clear hb hbox hg
       obtain ⟨Ao96, co96, eo96⟩ := Kd.R_slice HO395.out
       (first | subst eo96 | (injection eo96 with f1_ f2_ f3_; have f4_ := f1_.symm; have f5_ := f3_.symm; clear f1_ f2_ f3_; subst f4_; subst f5_))
       obtain ⟨Ao97, co97, eo97⟩ := Kd.S_slice HO398.out
       (first | subst eo97 | (injection eo97 with f1_ f2_ f3_; have f4_ := f1_.symm; have f5_ := f3_.symm; clear f1_ f2_ f3_; subst f4_; subst f5_))
       refine hK.out _ _ ⟨ce0 BK382, ce1 BK382, ce0 BK392, ce1 BK392, ce2 BK392, ce3 BK392, ce4 BK392⟩ (fun hHeld => ?_)
       clear hK K
       refine norm_ (a' := ?_) ?_ ?_
       rotate_left
       · show Act.put _ (some 10) _ = _
         simp only [Act.put, List.setIfInBounds_toArray, List.set_cons_zero, List.set_cons_succ, i64_w, i32_w]
         rfl
       refine oz 3 10 143 rfl rfl (fun K hK => ?_)
       refine gs Try.func81 #[.agg #[.slice Ao96 t393.length co96, .slice Ao97 t396.length co97], .agg #[.int .i64 t386, .string t387, .string t388, .int .i64 t389, .string t390]] rfl rfl ?_
       with_reducible refine (spec_l12Do.callsB k1 (fun k_ => some k_ = (.slice Ao96 t393.length co96 : Value).ownBlock) (.slice Ao96 t393.length co96) t393 (fun k_ => some k_ = (.slice Ao97 t396.length co97 : Value).ownBlock) (.slice Ao97 t396.length co97) t396 t386 t387 t388 t389 t390 t399 t402 t405 w0 _ w.heap.size ?side1 HL.out ?sbw ?side2 ?side3 A17.out).mono ?_
       (case side1 => exact zb HB)
       (case side2 => exact Kd.R_tight rfl HO395.out)
       (case side3 => exact Kd.S_mono (HO398.out) (fun _ _ => trivial))
       (case sbw => exact keep_size (w := w) (g := g) (row := none) (zh HK))
       rintro e w98 ⟨v400, v403, rfl, ho0, ho1, hb, hkp⟩
       refine ⟨_, rfl, ?_⟩
       replace HO_7 := am (Kd.R_mono (ok' := fun k_ => k_ ≠ gb392) (Kd.R_keptB ((Kd.R_apart' (Kd.R_apart' HO_7.out (Kd.R_typed HO395.out) (by decide)) (Kd.S_typed HO398.out) (by decide))) hkp (fun k_ hk_ hs_ => Or.elim hs_ (fun e_ => (hk_.1.2) e_) (fun e_ => (hk_.2) e_))) (fun k_ hk_ => hk_.1.1.1))
       replace HO_383000 := am (Kd.R_mono (ok' := fun k_ => True) (Kd.R_keptB ((Kd.R_apart' HO_383000.out (Kd.S_typed HO398.out) (by decide))) hkp (fun k_ hk_ hs_ => Or.elim hs_ (fun e_ => (hk_.1.2) e_) (fun e_ => (hk_.2) e_))) (fun k_ hk_ => trivial))
       replace HO_383001 := am (Kd.S_mono (ok' := fun k_ => True) (Kd.S_keptB ((Kd.S_apart' HO_383001.out (Kd.R_typed HO395.out) (by decide))) hkp (fun k_ hk_ hs_ => Or.elim hs_ (fun e_ => (hk_.2) e_) (fun e_ => (hk_.1.2) e_))) (fun k_ hk_ => trivial))
       replace BK375 := am (blk_kept (zk BK375) hkp (fun hs_ => Or.elim hs_ (fun e_ => (fun e_ => (Kd.R_ne HO395.out BK375.out (by decide)) e_) e_) (fun e_ => (fun e_ => (Kd.S_ne HO398.out BK375.out (by decide)) e_) e_)))
       replace BK382 := am (blk_kept (zk BK382) hkp (fun hs_ => Or.elim hs_ (fun e_ => (fun e_ => (Kd.R_ne HO395.out BK382.out (by decide)) e_) e_) (fun e_ => (fun e_ => (Kd.S_ne HO398.out BK382.out (by decide)) e_) e_)))
       replace HI0 := am (IsS93.kept (zi HI0) hkp (fun hs_ => Or.elim hs_ (fun e_ => (fun e_ => (IsS93.own_ne HI0.out HO395.out (by decide)) e_) e_) (fun e_ => (fun e_ => (IsS93.own_neS HI0.out HO398.out (by decide)) e_) e_)))
       replace BK392 := am (blk_kept (zk BK392) hkp (fun hs_ => Or.elim hs_ (fun e_ => (fun e_ => (Kd.R_ne HO395.out BK392.out (by decide)) e_) e_) (fun e_ => (fun e_ => (Kd.S_ne HO398.out BK392.out (by decide)) e_) e_)))
       replace BK406 := am (blk_kept (zk BK406) hkp (fun hs_ => Or.elim hs_ (fun e_ => (fun e_ => (Kd.R_ne HO395.out BK406.out (by decide)) e_) e_) (fun e_ => (fun e_ => (Kd.S_ne HO398.out BK406.out (by decide)) e_) e_)))
       have HO401 := am (ho0)
       have HO404 := am (ho1)
       replace HK := am (Kept.keepG (zh HK) hkp (fun k_ hs_ => Or.elim hs_ (fun e_ => (fun e_ => .inr (Kd.R_base HO395.out k_ e_.symm)) e_) (fun e_ => (fun e_ => .inr (Kd.S_base HO398.out k_ e_.symm)) e_)))
       replace HB := am (hb)
       clear HO395 HO398
       (try clear hb)
       (try clear hkp)
       (try clear ho0)
       (try clear ho1)
       refine hK.out _ _ ⟨ce0 BK382, ce1 BK382, ce0 BK392, ce1 BK392, ce2 BK392, ce3 BK392, ce4 BK392⟩ (fun hHeld => ?_)
       clear hK K
       refine norm_ (a' := ?_) ?_ ?_
       rotate_left
       · show Act.put _ (some 26) _ = _
         simp only [Act.put, List.setIfInBounds_toArray, List.set_cons_zero, List.set_cons_succ, i64_w, i32_w]
         rfl
       refine pu 4 22 10 159 rfl rfl ?_
       refine pu 5 27 10 191 rfl rfl ?_
       refine pu 6 28 10 255 rfl rfl ?_
       exact norm_ (by simp only [putAll, Act.put, List.setIfInBounds_toArray, List.set_cons_zero, List.set_cons_succ]) (hCont (.slice Ao96 t393.length co96, .slice Ao97 t396.length co97, v400, v403, gb406) _ ⟨hHeld, (zr HO401), (zs HO404), (zr HO_383000), (zs HO_383001), (zr HO_7), (zk BK375), (zk BK382), (zk BK392), (zk BK406), GW406.out, GE406.out, NB0_406.out, NB406_0.out, NB375_406.out, NB406_375.out, NB382_406.out, NB406_382.out, NB392_406.out, NB406_392.out, (zi HI0), (zh HK), (zb HB)⟩)
     skip
     refine box_step ?hg (N := 10) ?hd (cs := #[.slice none 0 0, .slice none 0 0]) (t := 31) ?hr ?_; (case hd => rfl); (case hg => rfl); (case hr => first | (go_simp; done) | (go_simp; rfl))
     intro gb406 hg w94 hbox hb
     replace HO_7 := am (Kd.R_below (zr HO_7) hb)
     replace HO_383000 := am (Kd.R_below (zr HO_383000) hb)
     replace HO_383001 := am (Kd.S_below (zs HO_383001) hb)
     replace HB := am (below_step (zb HB) hb)
     have BK406 := am (hbox)
     have GW406 := am (zm hg (zh HK))
     have GE406 := am ((Nat.le_trans HW0.out (zm hg (zh HK))))
     replace HK := am (KeepBut.trans (zh HK) (KeepBut.of_below hb g none) (.inl rfl))
     have NB375_406 := am (zx hg (zk BK375))
     have NB406_375 := am (zy hg (zk BK375))
     replace BK375 := am (blk_below (zk BK375) hb)
     have NB382_406 := am (zx hg (zk BK382))
     have NB406_382 := am (zy hg (zk BK382))
     replace BK382 := am (blk_below (zk BK382) hb)
     have NB392_406 := am (zx hg (zk BK392))
     have NB406_392 := am (zy hg (zk BK392))
     replace BK392 := am (blk_below (zk BK392) hb)
     have NB0_406 := am (ix hg (zi HI0))
     have NB406_0 := am (iy hg (zi HI0))
     replace HI0 := am (IsS93.below (zi HI0) hb)
     clear hb hbox hg
     refine hK.out _ _ ⟨ce0 BK382, ce1 BK382, ce0 BK392, ce1 BK392, ce2 BK392, ce3 BK392, ce4 BK392⟩ (fun hHeld => ?_)
     clear hK K
     refine norm_ (a' := ?_) ?_ ?_
     rotate_left
     · show Act.put _ (some 10) _ = _
       simp only [Act.put, List.setIfInBounds_toArray, List.set_cons_zero, List.set_cons_succ, i64_w, i32_w]
       rfl
     refine oz 1 10 135 rfl rfl (fun K hK => ?_)
     refine gs Try.func82 #[.agg #[.slice Ao84 x383000_1.length co84, .slice Ao85 x383001_1.length co85]] rfl rfl ?_
     with_reducible refine (spec_l11Copy.calls k1 _ _ x383000_1 _ _ x383001_1 t393 t396 _ ?side1 ?side2 ?side3 ?side4 A16.out).mono ?_
     (case side1 => exact zc (Kd.R_reads' HO_383000.out).2.2)
     (case side2 => exact (Kd.R_reads' HO_383000.out).2.1)
     (case side3 => exact zc (Kd.S_reads' HO_383001.out).2.2)
     (case side4 => exact (Kd.S_reads' HO_383001.out).2.1)
     rintro e w95 ⟨v394, v397, rfl, ho0, ho1, hb⟩
     refine ⟨_, rfl, ?_⟩
     replace HO_7 := am (Kd.R_below (zr HO_7) hb)
     have HO395 := am (Kd.R_lower (Kd.R_new' ho0 (Kd.R_lt (zr HO_383000))) (keep_size (zh HK)))
     replace HO_383000 := am (Kd.R_elder' (zr HO_383000) (Kd.R_base ho0) hb)
     have HO398 := am (Kd.S_lower (Kd.S_new' ho1 (Kd.S_lt (zs HO_383001))) (keep_size (zh HK)))
     replace HO_383001 := am (Kd.S_elder' (zs HO_383001) (Kd.S_base ho1) hb)
     replace BK375 := am (blk_below (zk BK375) hb)
     replace BK382 := am (blk_below (zk BK382) hb)
     replace HI0 := am (IsS93.below (zi HI0) hb)
     replace BK392 := am (blk_below (zk BK392) hb)
     replace BK406 := am (blk_below (zk BK406) hb)
     replace HK := am (KeepBut.trans (zh HK) (KeepBut.of_below hb g none) (.inl rfl))
     replace HB := am (below_step (zb HB) hb)
     (try clear hb)
     (try clear hb2)
     (try clear hk)
     (try clear hi)
     (try clear ho0)
     (try clear ho1)
     obtain ⟨Ao96, co96, eo96⟩ := Kd.R_slice HO395.out
     (first | subst eo96 | (injection eo96 with f1_ f2_ f3_; have f4_ := f1_.symm; have f5_ := f3_.symm; clear f1_ f2_ f3_; subst f4_; subst f5_))
     obtain ⟨Ao97, co97, eo97⟩ := Kd.S_slice HO398.out
     (first | subst eo97 | (injection eo97 with f1_ f2_ f3_; have f4_ := f1_.symm; have f5_ := f3_.symm; clear f1_ f2_ f3_; subst f4_; subst f5_))
     refine hK.out _ _ ⟨ce0 BK382, ce1 BK382, ce0 BK392, ce1 BK392, ce2 BK392, ce3 BK392, ce4 BK392⟩ (fun hHeld => ?_)
     clear hK K
     refine norm_ (a' := ?_) ?_ ?_
     rotate_left
     · show Act.put _ (some 24) _ = _
       simp only [Act.put, List.setIfInBounds_toArray, List.set_cons_zero, List.set_cons_succ, i64_w, i32_w]
       rfl
     refine oz 3 10 143 rfl rfl (fun K hK => ?_)
     refine gs Try.func81 #[.agg #[.slice Ao96 t393.length co96, .slice Ao97 t396.length co97], .agg #[.int .i64 t386, .string t387, .string t388, .int .i64 t389, .string t390]] rfl rfl ?_
     with_reducible refine (spec_l12Do.callsB k1 (fun k_ => some k_ = (.slice Ao96 t393.length co96 : Value).ownBlock) (.slice Ao96 t393.length co96) t393 (fun k_ => some k_ = (.slice Ao97 t396.length co97 : Value).ownBlock) (.slice Ao97 t396.length co97) t396 t386 t387 t388 t389 t390 t399 t402 t405 w0 _ w.heap.size ?side1 HL.out ?sbw ?side2 ?side3 A17.out).mono ?_
     (case side1 => exact zb HB)
     (case side2 => exact Kd.R_tight rfl HO395.out)
     (case side3 => exact Kd.S_mono (HO398.out) (fun _ _ => trivial))
     (case sbw => exact keep_size (w := w) (g := g) (row := none) (zh HK))
     rintro e w98 ⟨v400, v403, rfl, ho0, ho1, hb, hkp⟩
     refine ⟨_, rfl, ?_⟩
     replace HO_7 := am (Kd.R_mono (ok' := fun k_ => k_ ≠ gb392) (Kd.R_keptB ((Kd.R_apart' (Kd.R_apart' HO_7.out (Kd.R_typed HO395.out) (by decide)) (Kd.S_typed HO398.out) (by decide))) hkp (fun k_ hk_ hs_ => Or.elim hs_ (fun e_ => (hk_.1.2) e_) (fun e_ => (hk_.2) e_))) (fun k_ hk_ => hk_.1.1.1))
     replace HO_383000 := am (Kd.R_mono (ok' := fun k_ => True) (Kd.R_keptB ((Kd.R_apart' HO_383000.out (Kd.S_typed HO398.out) (by decide))) hkp (fun k_ hk_ hs_ => Or.elim hs_ (fun e_ => (hk_.1.2) e_) (fun e_ => (hk_.2) e_))) (fun k_ hk_ => trivial))
     replace HO_383001 := am (Kd.S_mono (ok' := fun k_ => True) (Kd.S_keptB ((Kd.S_apart' HO_383001.out (Kd.R_typed HO395.out) (by decide))) hkp (fun k_ hk_ hs_ => Or.elim hs_ (fun e_ => (hk_.2) e_) (fun e_ => (hk_.1.2) e_))) (fun k_ hk_ => trivial))
     replace BK375 := am (blk_kept (zk BK375) hkp (fun hs_ => Or.elim hs_ (fun e_ => (fun e_ => (Kd.R_ne HO395.out BK375.out (by decide)) e_) e_) (fun e_ => (fun e_ => (Kd.S_ne HO398.out BK375.out (by decide)) e_) e_)))
     replace BK382 := am (blk_kept (zk BK382) hkp (fun hs_ => Or.elim hs_ (fun e_ => (fun e_ => (Kd.R_ne HO395.out BK382.out (by decide)) e_) e_) (fun e_ => (fun e_ => (Kd.S_ne HO398.out BK382.out (by decide)) e_) e_)))
     replace HI0 := am (IsS93.kept (zi HI0) hkp (fun hs_ => Or.elim hs_ (fun e_ => (fun e_ => (IsS93.own_ne HI0.out HO395.out (by decide)) e_) e_) (fun e_ => (fun e_ => (IsS93.own_neS HI0.out HO398.out (by decide)) e_) e_)))
     replace BK392 := am (blk_kept (zk BK392) hkp (fun hs_ => Or.elim hs_ (fun e_ => (fun e_ => (Kd.R_ne HO395.out BK392.out (by decide)) e_) e_) (fun e_ => (fun e_ => (Kd.S_ne HO398.out BK392.out (by decide)) e_) e_)))
     replace BK406 := am (blk_kept (zk BK406) hkp (fun hs_ => Or.elim hs_ (fun e_ => (fun e_ => (Kd.R_ne HO395.out BK406.out (by decide)) e_) e_) (fun e_ => (fun e_ => (Kd.S_ne HO398.out BK406.out (by decide)) e_) e_)))
     have HO401 := am (ho0)
     have HO404 := am (ho1)
     replace HK := am (Kept.keepG (zh HK) hkp (fun k_ hs_ => Or.elim hs_ (fun e_ => (fun e_ => .inr (Kd.R_base HO395.out k_ e_.symm)) e_) (fun e_ => (fun e_ => .inr (Kd.S_base HO398.out k_ e_.symm)) e_)))
     replace HB := am (hb)
     clear HO395 HO398
     (try clear hb)
     (try clear hkp)
     (try clear ho0)
     (try clear ho1)
     refine hK.out _ _ ⟨ce0 BK382, ce1 BK382, ce0 BK392, ce1 BK392, ce2 BK392, ce3 BK392, ce4 BK392⟩ (fun hHeld => ?_)
     clear hK K
     refine norm_ (a' := ?_) ?_ ?_
     rotate_left
     · show Act.put _ (some 26) _ = _
       simp only [Act.put, List.setIfInBounds_toArray, List.set_cons_zero, List.set_cons_succ, i64_w, i32_w]
       rfl
     refine pu 4 22 10 159 rfl rfl ?_
     refine pu 5 27 10 191 rfl rfl ?_
     refine pu 6 28 10 255 rfl rfl ?_
     exact norm_ (by simp only [putAll, Act.put, List.setIfInBounds_toArray, List.set_cons_zero, List.set_cons_succ]) (hCont (.slice Ao96 t393.length co96, .slice Ao97 t396.length co97, v400, v403, gb406) _ ⟨hHeld, (zr HO401), (zs HO404), (zr HO_383000), (zs HO_383001), (zr HO_7), (zk BK375), (zk BK382), (zk BK392), (zk BK406), GW406.out, GE406.out, NB0_406.out, NB406_0.out, NB375_406.out, NB406_375.out, NB382_406.out, NB406_382.out, NB392_406.out, NB406_392.out, (zi HI0), (zh HK), (zb HB)⟩)
   rintro ⟨v394, v397, v400, v403, gb406⟩ w99 ⟨hS_, h0_, h1_, h2_, h3_, h4_, h5_, h6_, h7_, h8_, h9_, h10_, h11_, h12_, h13_, h14_, h15_, h16_, h17_, h18_, h19_, h20_, h21_⟩
   have HO401 : Aside0 (Kd.R k55 55 w99 w.heap.size (fun _ => True) v400 t399) := ⟨h0_⟩
   have HO404 : Aside0 (Kd.S k38 38 w99 w.heap.size (fun _ => True) v403 t402) := ⟨h1_⟩
   replace HO_383000 : Aside0 (Kd.R k55 55 w99 w.heap.size (fun _ => True) (.slice Ao84 x383000_1.length co84) x383000_1) := ⟨h2_⟩
   replace HO_383001 : Aside0 (Kd.S k38 38 w99 w.heap.size (fun _ => True) (.slice Ao85 x383001_1.length co85) x383001_1) := ⟨h3_⟩
   replace HO_7 : Aside0 (Kd.R k103 103 w99 w.heap.size (fun k_ => k_ ≠ gb392) u7 x7_1) := ⟨h4_⟩
   replace BK375 : Aside0 (w99.heap[gb375]? = some (.cells #[.slice none 0 0, .slice none 0 0] 31 (0, 0))) := ⟨h5_⟩
   replace BK382 : Aside0 (w99.heap[gb382]? = some (.cells #[.slice Ao84 x383000_1.length co84, .slice Ao85 x383001_1.length co85] 31 (0, 0))) := ⟨h6_⟩
   replace BK392 : Aside0 (w99.heap[gb392]? = some (.cells #[.int .i64 t386, .string t387, .string t388, .int .i64 t389, .string t390] 103 (0, 0))) := ⟨h7_⟩
   have BK406 : Aside0 (w99.heap[gb406]? = some (.cells #[.slice none 0 0, .slice none 0 0] 31 (0, 0))) := ⟨h8_⟩
   have GW406 : Aside0 (w.heap.size ≤ gb406) := ⟨h9_⟩
   have GE406 : Aside0 (w0.heap.size ≤ gb406) := ⟨h10_⟩
   have NB0_406 : Aside0 (g ≠ gb406) := ⟨h11_⟩
   have NB406_0 : Aside0 (gb406 ≠ g) := ⟨h12_⟩
   have NB375_406 : Aside0 (gb375 ≠ gb406) := ⟨h13_⟩
   have NB406_375 : Aside0 (gb406 ≠ gb375) := ⟨h14_⟩
   have NB382_406 : Aside0 (gb382 ≠ gb406) := ⟨h15_⟩
   have NB406_382 : Aside0 (gb406 ≠ gb382) := ⟨h16_⟩
   have NB392_406 : Aside0 (gb392 ≠ gb406) := ⟨h17_⟩
   have NB406_392 : Aside0 (gb406 ≠ gb392) := ⟨h18_⟩
   replace HI0 : Aside0 (IsS93 w0 w99 g s0_0 t391) := ⟨h19_⟩
   replace HK : Aside0 (KeepBut w w99 g none) := ⟨h20_⟩
   replace HB : Aside0 (Below w0.heap.size w0 w99) := ⟨h21_⟩
   clear h0_ h1_ h2_ h3_ h4_ h5_ h6_ h7_ h8_ h9_ h10_ h11_ h12_ h13_ h14_ h15_ h16_ h17_ h18_ h19_ h20_ h21_
   have hHeld : w99.cell? ⟨gb382, 0, none⟩ = some (.slice Ao84 x383000_1.length co84) ∧ w99.cell? ⟨gb382, 1, none⟩ = some (.slice Ao85 x383001_1.length co85) ∧ w99.cell? ⟨gb392, 0, none⟩ = some (.int .i64 t386) ∧ w99.cell? ⟨gb392, 1, none⟩ = some (.string t387) ∧ w99.cell? ⟨gb392, 2, none⟩ = some (.string t388) ∧ w99.cell? ⟨gb392, 3, none⟩ = some (.int .i64 t389) ∧ w99.cell? ⟨gb392, 4, none⟩ = some (.string t390) := hS_
   obtain ⟨Ao100, co100, eo100⟩ := Kd.R_slice HO401.out
   (first | subst eo100 | (injection eo100 with f1_ f2_ f3_; have f4_ := f1_.symm; have f5_ := f3_.symm; clear f1_ f2_ f3_; subst f4_; subst f5_))
   obtain ⟨Ao102, co102, eo102⟩ := Kd.S_slice HO404.out
   (first | subst eo102 | (injection eo102 with f1_ f2_ f3_; have f4_ := f1_.symm; have f5_ := f3_.symm; clear f1_ f2_ f3_; subst f4_; subst f5_))
   refine norm_ (a' := ?_) ?_ ?_
   rotate_left
   · simp only [putAll, Act.put, List.setIfInBounds_toArray, List.set_cons_zero, List.set_cons_succ]
     rfl
   refine oz 8 10 511 rfl rfl (fun K hK => ?_)
   have hs101 := ce0 BK406
   have hfs101 := bfz BK406 0
   have hns101_0 := NB375_406.out
   have hns101_1 := NB382_406.out
   have hns101_2 := NB392_406.out
   have hms101_0 := NB406_375.out
   have hms101_1 := NB406_382.out
   have hms101_2 := NB406_392.out
   have hs103 := ce1 BK406
   have hfs103 := bfz BK406 1
   have hns103_0 := NB375_406.out
   have hns103_1 := NB382_406.out
   have hns103_2 := NB392_406.out
   have hms103_0 := NB406_375.out
   have hms103_1 := NB406_382.out
   have hms103_2 := NB406_392.out
   refine skip_ (w1 := ?_) (by rfl) rfl ?_ ?_
   rotate_left
   · go_simp
     rfl
   refine hK.out _ _ ⟨((cell_far (p := ⟨gb406, _, none⟩) NB382_406.out _).trans (((cell_far (p := ⟨gb406, _, none⟩) NB382_406.out _).trans (hHeld.1)))), ((cell_far (p := ⟨gb406, _, none⟩) NB382_406.out _).trans (((cell_far (p := ⟨gb406, _, none⟩) NB382_406.out _).trans (hHeld.2.1)))), ((cell_far (p := ⟨gb406, _, none⟩) NB392_406.out _).trans (((cell_far (p := ⟨gb406, _, none⟩) NB392_406.out _).trans (hHeld.2.2.1)))), ((cell_far (p := ⟨gb406, _, none⟩) NB392_406.out _).trans (((cell_far (p := ⟨gb406, _, none⟩) NB392_406.out _).trans (hHeld.2.2.2.1)))), ((cell_far (p := ⟨gb406, _, none⟩) NB392_406.out _).trans (((cell_far (p := ⟨gb406, _, none⟩) NB392_406.out _).trans (hHeld.2.2.2.2.1)))), ((cell_far (p := ⟨gb406, _, none⟩) NB392_406.out _).trans (((cell_far (p := ⟨gb406, _, none⟩) NB392_406.out _).trans (hHeld.2.2.2.2.2.1)))), ((cell_far (p := ⟨gb406, _, none⟩) NB392_406.out _).trans (((cell_far (p := ⟨gb406, _, none⟩) NB392_406.out _).trans (hHeld.2.2.2.2.2.2))))⟩ (fun hHeld => ?_)
   clear hK K
   refine pu 9 11 10 1023 rfl rfl ?_
   refine done_ (done_of HT_.out (by kernel_rfl)) ?_
   have hnb104 := NB392_406.out
   have hnc104 := NB406_392.out
   have hcz105_0 := ce0 BK392
   have hcz105_1 := ce1 BK392
   have hcz105_2 := ce2 BK392
   have hcz105_3 := ce3 BK392
   have hcz105_4 := ce4 BK392
   have hfz105_0 := bfz BK392 0
   have hfz105_1 := bfz BK392 1
   have hfz105_2 := bfz BK392 2
   have hfz105_3 := bfz BK392 3
   have hfz105_4 := bfz BK392 4
   have H := HH_.out
   clear HH_
   by_cases c19 : t407 = true
   rotate_left
   · replace c19 := Bool.eq_false_iff.mpr c19
     subst c19
     have H1 : (spec_l71Ops.l0 k1 a1 x7_1 (wrap64 (x8_1 + 1)) s0_0 t391 x383000_1 x383001_1) = some (r1, r2, r3, r4) := by rw [if_neg (show ¬ (false = true) by decide)] at H; exact H
     clear H
     have H := H1
     clear H1
     have H' := am H
     clear H
     try go_wp2_with (first | ((with_reducible refine gate_callee (f := 83) rfl ?_); refine gl Try.func83 30 #[.agg #[.int .i64 t386, .string t387, .string t388, .int .i64 t389, .string t390]] rfl rfl rfl ?_; (with_reducible refine (spec_OpOk.calls k1 t386 t387 t388 t389 t390 false _ A18.out).mono ?_); rintro e w106 ⟨rfl, hb⟩; refine ⟨_, rfl, ?_⟩; replace HO_7 := am (Kd.R_below (rf HO_7 BK406) hb); replace HO_383000 := am (Kd.R_below (rf HO_383000 BK406) hb); replace HO_383001 := am (Kd.S_below (sf HO_383001 BK406) hb); replace HO401 := am (Kd.R_below (rf HO401 BK406) hb); replace HO404 := am (Kd.S_below (sf HO404 BK406) hb); replace BK375 := am (blk_below (zk BK375) hb); replace BK382 := am (blk_below (zk BK382) hb); replace HI0 := am (IsS93.below (zi HI0) hb); replace BK392 := am (blk_below (zk BK392) hb); replace BK406 := am (blk_below (g := gb406) (o := .cells #[.slice Ao100 t399.length co100, .slice Ao102 t402.length co102] 31 (0, 0)) (zp BK406) hb); replace HK := am (KeepBut.trans (zh HK) (KeepBut.of_below hb g none) (.inl rfl)); replace HB := am (below_step (zb HB) hb); (try clear hb); (try clear hb2); (try clear hk); (try clear hi)))
     go_roundg k1
     case measure => have := HK1.out; omega
     case rel => exact ⟨(x7_1), (wrap64 (x8_1 + 1)), (t391), (x383000_1), (x383001_1), (.slice Ao84 x383000_1.length co84), (.slice Ao85 x383001_1.length co85), ze, H', ⟨by have := HK1.out; omega⟩, ⟨by (with_reducible repeat (first | apply Kd.R_alloc | apply Kd.R_drewN | apply Kd.R_drew)); exact Kd.R_mono HO_7.out (fun _ hk => trivial)⟩, ⟨zr HO_383000⟩, ⟨zs HO_383001⟩, ⟨zk BK375⟩, ⟨zk BK382⟩, ⟨zi HI0⟩, ⟨zh HK⟩, ⟨zb HB⟩⟩
   subst c19
   have H1 : (if t405 = true then (if x7_1.length < 2199023255552 then (spec_l71Ops.l0 k1 a1 (x7_1 ++ [(⟨t386, t387, t388, t389, t390⟩ : S103)]) (wrap64 (x8_1 + 1)) s0_0 t391 t399 t402) else (none)) else (spec_l71Ops.l0 k1 a1 x7_1 (wrap64 (x8_1 + 1)) s0_0 t391 x383000_1 x383001_1)) = some (r1, r2, r3, r4) := by rw [if_pos rfl] at H; exact H
   clear H
   have H := H1
   clear H1
   by_cases c20 : t405 = true
   rotate_left
   · replace c20 := Bool.eq_false_iff.mpr c20
     subst c20
     have H1 : (spec_l71Ops.l0 k1 a1 x7_1 (wrap64 (x8_1 + 1)) s0_0 t391 x383000_1 x383001_1) = some (r1, r2, r3, r4) := by rw [if_neg (show ¬ (false = true) by decide)] at H; exact H
     clear H
     have H := H1
     clear H1
     have H' := am H
     clear H
     try go_wp2_with (first | ((with_reducible refine gate_callee (f := 83) rfl ?_); refine gl Try.func83 30 #[.agg #[.int .i64 t386, .string t387, .string t388, .int .i64 t389, .string t390]] rfl rfl rfl ?_; (with_reducible refine (spec_OpOk.calls k1 t386 t387 t388 t389 t390 true _ A18.out).mono ?_); rintro e w80 ⟨rfl, hb⟩; refine ⟨_, rfl, ?_⟩; replace HO_7 := am (Kd.R_below (rf HO_7 BK406) hb); replace HO_383000 := am (Kd.R_below (rf HO_383000 BK406) hb); replace HO_383001 := am (Kd.S_below (sf HO_383001 BK406) hb); replace HO401 := am (Kd.R_below (rf HO401 BK406) hb); replace HO404 := am (Kd.S_below (sf HO404 BK406) hb); replace BK375 := am (blk_below (zk BK375) hb); replace BK382 := am (blk_below (zk BK382) hb); replace HI0 := am (IsS93.below (zi HI0) hb); replace BK392 := am (blk_below (zk BK392) hb); replace BK406 := am (blk_below (g := gb406) (o := .cells #[.slice Ao100 t399.length co100, .slice Ao102 t402.length co102] 31 (0, 0)) (zp BK406) hb); replace HK := am (KeepBut.trans (zh HK) (KeepBut.of_below hb g none) (.inl rfl)); replace HB := am (below_step (zb HB) hb); (try clear hb); (try clear hb2); (try clear hk); (try clear hi)))
     go_roundg k1
     case measure => have := HK1.out; omega
     case rel => exact ⟨(x7_1), (wrap64 (x8_1 + 1)), (t391), (x383000_1), (x383001_1), (.slice Ao84 x383000_1.length co84), (.slice Ao85 x383001_1.length co85), ze, H', ⟨by have := HK1.out; omega⟩, ⟨by (with_reducible repeat (first | apply Kd.R_alloc | apply Kd.R_drewN | apply Kd.R_drew)); exact Kd.R_mono HO_7.out (fun _ hk => trivial)⟩, ⟨zr HO_383000⟩, ⟨zs HO_383001⟩, ⟨zk BK375⟩, ⟨zk BK382⟩, ⟨zi HI0⟩, ⟨zh HK⟩, ⟨zb HB⟩⟩
   subst c20
   have H1 : (if x7_1.length < 2199023255552 then (spec_l71Ops.l0 k1 a1 (x7_1 ++ [(⟨t386, t387, t388, t389, t390⟩ : S103)]) (wrap64 (x8_1 + 1)) s0_0 t391 t399 t402) else (none)) = some (r1, r2, r3, r4) := by rw [if_pos rfl] at H; exact H
   clear H
   have H := H1
   clear H1
   by_cases c21 : x7_1.length < 2199023255552
   rotate_left
   · rw [if_neg c21] at H
     exact absurd H (by simp)
   rw [if_pos c21] at H
   have LMc21 := am c21
   clear c21
   obtain ⟨y408, hy408⟩ : ∃ y_ : List (S103), y_ = (x7_1 ++ [(⟨t386, t387, t388, t389, t390⟩ : S103)]) := ⟨_, rfl⟩
   replace H : (spec_l71Ops.l0 k1 a1 y408 (wrap64 (x8_1 + 1)) s0_0 t391 t399 t402) = some (r1, r2, r3, r4) := hY hy408 H
   have Ny408 := am hy408
   clear hy408
   have H' := am H
   clear H
   try go_wp2_with (first | ((with_reducible refine gate_callee (f := 83) rfl ?_); refine gl Try.func83 30 #[.agg #[.int .i64 t386, .string t387, .string t388, .int .i64 t389, .string t390]] rfl rfl rfl ?_; (with_reducible refine (spec_OpOk.calls k1 t386 t387 t388 t389 t390 true _ A18.out).mono ?_); rintro e w47 ⟨rfl, hb⟩; refine ⟨_, rfl, ?_⟩; replace HO_7 := am (Kd.R_below (rf HO_7 BK406) hb); replace HO_383000 := am (Kd.R_below (rf HO_383000 BK406) hb); replace HO_383001 := am (Kd.S_below (sf HO_383001 BK406) hb); replace HO401 := am (Kd.R_below (rf HO401 BK406) hb); replace HO404 := am (Kd.S_below (sf HO404 BK406) hb); replace BK375 := am (blk_below (zk BK375) hb); replace BK382 := am (blk_below (zk BK382) hb); replace HI0 := am (IsS93.below (zi HI0) hb); replace BK392 := am (blk_below (zk BK392) hb); replace BK406 := am (blk_below (g := gb406) (o := .cells #[.slice Ao100 t399.length co100, .slice Ao102 t402.length co102] 31 (0, 0)) (zp BK406) hb); replace HK := am (KeepBut.trans (zh HK) (KeepBut.of_below hb g none) (.inl rfl)); replace HB := am (below_step (zb HB) hb); (try clear hb); (try clear hb2); (try clear hk); (try clear hi); have hnb48 := NB406_375.out; have hnc48 := NB375_406.out; have hnb49 := NB406_382.out; have hnc49 := NB382_406.out; have hnb50 := NB406_0.out; have hnc50 := NB0_406.out; have hcz51_0 := ce0 BK406; have hcz51_1 := ce1 BK406; have hfz51_0 := bfz BK406 0; have hfz51_1 := bfz BK406 1; have hcz52_0 := ce0 BK382; have hcz52_1 := ce1 BK382; have hfz52_0 := bfz BK382 0; have hfz52_1 := bfz BK382 1; have hcz53_0 := ce0 BK392; have hcz53_1 := ce1 BK392; have hcz53_2 := ce2 BK392; have hcz53_3 := ce3 BK392; have hcz53_4 := ce4 BK392; have hfz53_0 := bfz BK392 0; have hfz53_1 := bfz BK392 1; have hfz53_2 := bfz BK392 2; have hfz53_3 := bfz BK392 3; have hfz53_4 := bfz BK392 4) | ((with_reducible refine gate_builtin (b := .append) (xs := #[.tmp 35, .tmp 37]) rfl ?_); at_builtin; refine Kd.R_append k103 w.heap.size rfl (.tmp 35) (.tmp 37) 94 103 (.agg #[(.int .i64 0), (.string ⟨#[]⟩), (.string ⟨#[]⟩), (.int .i64 0), (.string ⟨#[]⟩)]) 64 rfl Try.underlying94 info103 rfl (by decide) (by omega) u7 x7_1 (⟨t386, t387, t388, t389, t390⟩ : S103) [.int .i64 t386, .string t387, .string t388, .int .i64 t389, .string t390] (fun k_ => k_ ≠ gb392) (fun _ => False) rfl (by first | (go_simp; done) | (go_simp; rfl)) ?aP (fun _ hk => hk.elim) ?aF ?aO (Below.refl _ _) ?aS ?aL ?_; (case aP => exact k103_mkM _ _ _ (⟨t386, t387, t388, t389, t390⟩ : S103)); (case aF => exact (fun k_ hk => Kd.freshB (g := gb392) (o := .cells #[.int .i64 t386, .string t387, .string t388, .int .i64 t389, .string t390] 103 (0, 0)) (zk BK392) k_ hk)); (case aO => exact (rf HO_7 BK382)); (case aS => exact (keep_size (zh HK))); (case aL => have := LMc21.out; omega); intro v409 w54 ho hb hg hat; rw [← Ny408.out] at ho; replace HO_383000 := am (Kd.R_over' (rf HO_383000 BK382) (Kd.R_typed (rf HO_7 BK382)) (by decide) hg); replace HO_383001 := am (Kd.S_over' (sf HO_383001 BK382) (Kd.R_typed (rf HO_7 BK382)) (by decide) hg); replace BK375 := am (blk_grown (zk BK375) hg (Kd.R_ne HO_7.out BK375.out (by decide))); replace HI0 := am (IsS93.grown (zi HI0) hg (IsS93.own_ne HI0.out HO_7.out (by decide))); replace BK392 := am (blk_grown (zk BK392) hg (Kd.R_away HO_7.out (fun _ hk => hk))); replace HO401 := am (Kd.R_over' (rf HO401 BK382) (Kd.R_typed (rf HO_7 BK382)) (by decide) hg); replace HO404 := am (Kd.S_over' (sf HO404 BK382) (Kd.R_typed (rf HO_7 BK382)) (by decide) hg); replace BK382 := am (blk_grown (g := gb382) (o := .cells #[.slice Ao100 t399.length co100, .slice Ao102 t402.length co102] 31 (0, 0)) (zp BK382) hg (Kd.R_ne HO_7.out BK382.out (by decide))); replace BK406 := am (blk_grown (zk BK406) hg (Kd.R_ne HO_7.out BK406.out (by decide))); replace HB := am (below_weaken (zb HB) HL.out hb); replace HK := am (KeepBut.trans (zh HK) (KeepBut.of_grown hg g) (Kd.R_base2 HO_7.out)); have HO410 := am (ho); clear HO_7; clear ho hb hg hat))
   go_roundg k1
   case measure => have := HK1.out; omega
   case rel => exact ⟨(y408), (wrap64 (x8_1 + 1)), (t391), (t399), (t402), (.slice Ao100 t399.length co100), (.slice Ao102 t402.length co102), ze, H', ⟨by have := HK1.out; omega⟩, ⟨by (with_reducible repeat (first | apply Kd.R_alloc | apply Kd.R_drewN | apply Kd.R_drew)); exact Kd.R_mono HO410.out (fun _ hk => trivial)⟩, ⟨zr HO401⟩, ⟨zs HO404⟩, ⟨zk BK375⟩, ⟨zk BK382⟩, ⟨zi HI0⟩, ⟨zh HK⟩, ⟨zb HB⟩⟩
end Go.Proofs.Ytooamacekmjpaaa.PFnVolCount
