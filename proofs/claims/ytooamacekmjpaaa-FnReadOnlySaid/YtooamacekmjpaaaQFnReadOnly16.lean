/- The walk: each function that the law comes to as a plain Lean function, and a proof that the Go code answers so. Written by this session's program over the kit's printer. -/
import Derived.Test.YtooamacekmjpaaaZ
import Derived.Test.YtooamacekmjpaaaQFnReadOnly0
import Derived.Test.YtooamacekmjpaaaQFnReadOnly8
import Derived.Test.YtooamacekmjpaaaQFnReadOnly9
import Derived.Test.YtooamacekmjpaaaQFnReadOnly13
import Derived.Test.YtooamacekmjpaaaQFnReadOnly15
namespace Go.Proofs.Ytooamacekmjpaaa.PFnReadOnly
open Go.RowKit Go.Proofs.YtooamacekmjpaaaW.PrintWords Go.Proofs.YtooamacekmjpaaaW.PrintLast Go.Proofs.YtooamacekmjpaaaW.PrintMore
attribute [local go_sem] max2_int min2_int max_two min_two max_three min_three max_four min_four   -- for this text's walks alone
set_option linter.unusedVariables false
set_option linter.unusedSimpArgs false
/-! ### spec_l71Ops: function 73 -/
def spec_l71Ops.l0 : Nat → Int → List (S103) → Int → List Int → Int → List (S55) → List (S38) → Option ((List (S103)) × (List (S55)) × (List (S38)) × Int)
 | 0, _, _, _, _, _, _, _ => none
 | k + 1, x1, x7, x8, x1000, x1001, x441000, x441001 => if x8 < x1 then ((spec_l71Fits.f k x1000 x1001 x441000 x441001).bind fun bt444 => ((spec_l11Copy.f k x441000 x441001).bind fun bt451 => ((spec_l12Do.f k bt451.1 bt451.2 bt444.1 bt444.2.1 bt444.2.2.1 bt444.2.2.2.1 bt444.2.2.2.2.1).bind fun bt457 => ((spec_OpOk.f k bt444.1 bt444.2.1 bt444.2.2.1 bt444.2.2.2.1 bt444.2.2.2.2.1).bind fun t465 => (if t465 = true then (if bt457.2.2 = true then (if x7.length < 2199023255552 then (spec_l71Ops.l0 k x1 (x7 ++ [(⟨bt444.1, bt444.2.1, bt444.2.2.1, bt444.2.2.2.1, bt444.2.2.2.2.1⟩ : S103)]) (wrap64 (x8 + 1)) x1000 bt444.2.2.2.2.2 bt457.1 bt457.2.1) else (none)) else (spec_l71Ops.l0 k x1 x7 (wrap64 (x8 + 1)) x1000 bt444.2.2.2.2.2 x441000 x441001)) else (spec_l71Ops.l0 k x1 x7 (wrap64 (x8 + 1)) x1000 bt444.2.2.2.2.2 x441000 x441001)))))) else (some (x7, x441000, x441001, x1001))
def spec_l71Ops.f (k : Nat) (s0_0 : List Int) (s0_1 : Int) (a1 : Int) : Option ((List (S103)) × (List (S55)) × (List (S38)) × Int) := (spec_PoolNew.f).bind fun bt434 => (spec_l71Ops.l0 k a1 (([] : List (S103))) 0 s0_0 s0_1 bt434.1 bt434.2)
theorem spec_l71Ops.mono_l : ∀ k, (∀ y0 y1 y2 y3 y4 y5 y6, LeO (spec_l71Ops.l0 k y0 y1 y2 y3 y4 y5 y6) (spec_l71Ops.l0 (k + 1) y0 y1 y2 y3 y4 y5 y6))
 | 0 => fun _ _ _ _ _ _ _ r h => by simp [spec_l71Ops.l0] at h
 | k + 1 => by
  have ih0 := spec_l71Ops.mono_l k
  intro y0 y1 y2 y3 y4 y5 y6
  unfold spec_l71Ops.l0
  exact mo5 ih0 @spec_OpOk.mono @spec_l11Copy.mono @spec_l12Do.mono @spec_l71Fits.mono
theorem spec_l71Ops.mono : ∀ a0 a1 a2 k, LeO (spec_l71Ops.f k a0 a1 a2) (spec_l71Ops.f (k + 1) a0 a1 a2) := by
 intro a0 a1 a2 k
 have ih0 := spec_l71Ops.mono_l k
 unfold spec_l71Ops.f
 exact mo5 ih0 @spec_OpOk.mono @spec_l11Copy.mono @spec_l12Do.mono @spec_l71Fits.mono
def spec_l71Ops.T7 : Bool × List (List Nat × List Nat) := (true, [([], []), ([0], [0]), ([], []), ([1, 2, 1], [1, 2]), ([3], [3]), ([4], [4]), ([4], [4]), ([], []), ([7, 5, 3, 0, 1, 2, 3, 4, 5, 7], [5, 7]), ([6, 8, 0, 1, 2, 3, 4, 5, 6, 7, 8], [6])])
def spec_l71Ops.B7 : List Nat := [0, 1, 0, 7, 15, 31, 31, 0, 191, 511]
theorem spec_l71Ops.tab7 : rtab .any (opsOf Try.f73 7) = spec_l71Ops.T7 := by kernel_rfl
theorem spec_l71Ops.bits7 : waitsOk spec_l71Ops.T7.2 spec_l71Ops.B7 = true := by kernel_rfl
set_option maxHeartbeats 8000000 in
set_option maxRecDepth 100000 in
theorem spec_l71Ops.calls (k : Nat) (g : Nat) (s0_0 : List Int) (s0_1 : Int) (a1 : Int) (r1 : List (S103)) (r2 : List (S55)) (r3 : List (S38)) (r4 : Int) (w0 w : World) (hI : IsS93 w0 w g s0_0 s0_1) (hB : Below w0.heap.size w0 w) (h : spec_l71Ops.f k s0_0 s0_1 a1 = some (r1, r2, r3, r4)) :
 Calls Try.prog 73 #[.pointer (some ⟨g, 0, none⟩), .int .i64 a1] w fun e w' => ∃ v0_ v1_ v2_ : Value, e = .returned (.tuple #[v0_, .agg #[v1_, v2_]]) ∧ Kd.R k103 103 w' w.heap.size (fun _ => True) v0_ r1 ∧ Kd.R k55 55 w' w.heap.size (fun _ => True) v1_ r2 ∧ Kd.S k38 38 w' w.heap.size (fun _ => True) v2_ r3 ∧ IsS93 w0 w' g s0_0 r4 ∧ Below w0.heap.size w0 w' ∧ KeepBut w w' g none := by
 have hu31 := Try.underlying31
 have hu103 := Try.underlying103
 have HI0 := am hI
 have HK := am (KeepBut.refl w g none)
 have HL := am hB.size
 clear hI
 have HW0 := am hB.size
 have HB := am hB
 clear hB
 have H : ((spec_PoolNew.f).bind fun bt434 => (spec_l71Ops.l0 k a1 (([] : List (S103))) 0 s0_0 s0_1 bt434.1 bt434.2)) = some (r1, r2, r3, r4) := h
 clear h
 replace H := obs H
 obtain ⟨⟨t434, t437⟩, A30, H⟩ := H
 replace H : (spec_l71Ops.l0 k a1 (([] : List (S103))) 0 s0_0 s0_1 t434 t437) = some (r1, r2, r3, r4) := H
 have A3 := am A30
 clear A30
 obtain ⟨y441, hy441⟩ : ∃ y_ : List (S103), y_ = (([] : List (S103))) := ⟨_, rfl⟩
 replace H : (spec_l71Ops.l0 k a1 y441 0 s0_0 s0_1 t434 t437) = some (r1, r2, r3, r4) := hY hy441 H
 have Ny441 := am hy441
 clear hy441
 have H' := am H
 clear H
 go_enter Try.func73, Try.ntmps73
 go_wp2_with (first | ((with_reducible refine gate_dst (N := 5) rfl ?_); refine bx 31 #[.slice none 0 0, .slice none 0 0] ?_; intro gb433 hg w4 hbox hb; replace HB := am (below_step (zb HB) hb); have BK433 := am (hbox); have GW433 := am (zm hg (zh HK)); have GE433 := am ((Nat.le_trans HW0.out (zm hg (zh HK)))); replace HK := am (KeepBut.trans (zh HK) (KeepBut.of_below hb g none) (.inl rfl)); have NB0_433 := am (ix hg (zi HI0)); have NB433_0 := am (iy hg (zi HI0)); replace HI0 := am (IsS93.below (zi HI0) hb); clear hb hbox hg) | ((with_reducible refine gate_callee (f := 79) rfl ?_); refine gl Try.func79 12 #[] rfl rfl rfl ?_; (with_reducible refine (spec_PoolNew.calls  t434 t437 _ A3.out).mono ?_); rintro e w5 ⟨v435, v438, rfl, ho0, ho1, hb⟩; refine ⟨_, rfl, ?_⟩; have HO436 := am (Kd.R_lower ho0 (keep_size (zh HK))); have HO439 := am (Kd.S_lower ho1 (keep_size (zh HK))); replace HI0 := am (IsS93.below (zi HI0) hb); replace BK433 := am (blk_below (zk BK433) hb); replace HK := am (KeepBut.trans (zh HK) (KeepBut.of_below hb g none) (.inl rfl)); replace HB := am (below_step (zb HB) hb); (try clear hb); (try clear hb2); (try clear hk); (try clear hi); (try clear ho0); (try clear ho1)) | ((with_reducible refine gate_dst (N := 6) rfl ?_); refine bx 31 #[.slice none 0 0, .slice none 0 0] ?_; intro gb440 hg w6 hbox hb; replace HO436 := am (Kd.R_below (zr HO436) hb); replace HO439 := am (Kd.S_below (zs HO439) hb); replace HB := am (below_step (zb HB) hb); have BK440 := am (hbox); have GW440 := am (zm hg (zh HK)); have GE440 := am ((Nat.le_trans HW0.out (zm hg (zh HK)))); replace HK := am (KeepBut.trans (zh HK) (KeepBut.of_below hb g none) (.inl rfl)); have NB433_440 := am (zx hg (zk BK433)); have NB440_433 := am (zy hg (zk BK433)); replace BK433 := am (blk_below (zk BK433) hb); have NB0_440 := am (ix hg (zi HI0)); have NB440_0 := am (iy hg (zi HI0)); replace HI0 := am (IsS93.below (zi HI0) hb); clear hb hbox hg; obtain ⟨Ao7, co7, eo7⟩ := Kd.R_slice HO436.out; subst eo7; have hnb8 := NB440_433.out; have hnc8 := NB433_440.out; have hnb9 := NB440_0.out; have hnc9 := NB0_440.out; have hcz10_0 := ce0 BK440; have hcz10_1 := ce1 BK440; have hfz10_0 := bfz BK440 0; have hfz10_1 := bfz BK440 1; obtain ⟨Ao11, co11, eo11⟩ := Kd.S_slice HO439.out; subst eo11) | ((with_reducible refine gate_dst (N := 13) rfl ?_); refine Kd.R_lit k103 _ 103 ?hg (N := 13) ?hd (xs := ([] : List (S103))) (inner := []) (ok := fun _ => True) (okp := fun _ => True) ?hr ?hp (fun _ hk => hk) trivial (Below.refl _ _) (Nat.le_refl _) (by simp) ?_; (case hd => rfl); (case hg => rfl); (case hr => first | (go_simp; done) | (go_simp; rfl)); (case hp => exact (Reps.none _ _)); intro v442 w12 ho13 hb hg_ hnew_; clear hg_ hnew_; (first | rw [← Ny441.out] at ho13 | (simp only [Int.reduceToNat] at ho13; rw [← Ny441.out] at ho13)); replace HO436 := am (Kd.R_below (rf HO436 BK440) hb); replace HO439 := am (Kd.S_below (sf HO439 BK440) hb); have HO443 := am (Kd.R_lower ho13 (keep_size (zh HK))); replace HI0 := am (IsS93.below (zi HI0) hb); replace BK433 := am (blk_below (zk BK433) hb); replace BK440 := am (blk_below (g := gb440) (o := .cells #[.slice Ao7 t434.length co7, .slice Ao11 t437.length co11] 31 (0, 0)) (zp BK440) hb); replace HK := am (KeepBut.trans (zh HK) (KeepBut.of_below hb g none) (.inl rfl)); replace HB := am (below_step (zb HB) hb); clear hb ho13))
 go_loopg [7, 8] k (fun kq v7 v8 w' => ∃ (x7_1 : List (S103)) (x8_1 : Int) (x1001_1 : Int) (x441000_1 : List (S55)) (x441001_1 : List (S38)) (u441000 : Value) (u441001 : Value), v8 = .int .i64 x8_1 ∧ Aside0 (spec_l71Ops.l0 kq a1 x7_1 x8_1 s0_0 x1001_1 x441000_1 x441001_1 = some (r1, r2, r3, r4)) ∧ Aside0 (kq ≤ k) ∧ Aside0 (Kd.R k103 103 w' w.heap.size (fun _ => True) v7 x7_1) ∧ Aside0 (Kd.R k55 55 w' w.heap.size (fun _ => True) u441000 x441000_1) ∧ Aside0 (Kd.S k38 38 w' w.heap.size (fun _ => True) u441001 x441001_1) ∧ Aside0 (w'.heap[gb433]? = some (.cells #[(.slice none 0 0), (.slice none 0 0)] 31 (0, 0))) ∧ Aside0 (w'.heap[gb440]? = some (.cells #[u441000, u441001] 31 (0, 0))) ∧ Aside0 (IsS93 w0 w' g s0_0 x1001_1) ∧ Aside0 (KeepBut w w' g none) ∧ Aside0 (Below w0.heap.size w0 w'))
 case atStart => exact ⟨(y441), (0), (s0_1), (t434), (t437), (.slice Ao7 t434.length co7), (.slice Ao11 t437.length co11), ze, H', ⟨Nat.le_refl _⟩, ⟨zr HO443⟩, ⟨zr HO436⟩, ⟨zs HO439⟩, ⟨zk BK433⟩, ⟨zk BK440⟩, ⟨zi HI0⟩, ⟨zh HK⟩, ⟨zb HB⟩⟩
 case round =>
  clear H'
  try clear p2
  try clear c7
  try clear c8
  try clear c9
  try clear hcz10_0
  try clear hcz10_1
  try clear hfz10_0
  try clear hfz10_1
  obtain ⟨x7_1, x8_1, x1001_1, x441000_1, x441001_1, u441000, u441001, rfl, HA, HK1, HO_7, HO_441000, HO_441001, BK433, BK440, HI0, HK, HB⟩ := hrel
  cases gk with
  | zero => exact absurd HA.out (by simp [spec_l71Ops.l0])
  | succ k1 =>
   have H := HA.out
   clear HA
   simp only [spec_l71Ops.l0] at H
   by_cases c14 : x8_1 < a1
   rotate_left
   · rw [if_neg c14] at H
     have c14b0 : decide (x8_1 < a1) = false := decide_eq_false c14
     clear c14
     simp only [Option.some.injEq, Prod.mk.injEq] at H
     obtain ⟨rfl, rfl, rfl, rfl⟩ := H
     try go_wp2
     replace HO_7 := am (Kd.R_drew HO_7.out)
     replace HO_441000 := am (Kd.R_drew HO_441000.out)
     replace HO_441001 := am (Kd.S_drew HO_441001.out)
     replace BK433 := am (blk_drew BK433.out)
     replace BK440 := am (blk_drew BK440.out)
     replace HI0 := am (IsS93.drew HI0.out)
     replace HK := am (keep_drew HK.out)
     replace HB := am (below_drew1 HB.out)
     obtain ⟨Ao108, co108, eo108⟩ := Kd.R_slice HO_441000.out
     (first | subst eo108 | (injection eo108 with f1_ f2_ f3_; have f4_ := f1_.symm; have f5_ := f3_.symm; clear f1_ f2_ f3_; subst f4_; subst f5_))
     obtain ⟨Ao110, co110, eo110⟩ := Kd.S_slice HO_441001.out
     (first | subst eo110 | (injection eo110 with f1_ f2_ f3_; have f4_ := f1_.symm; have f5_ := f3_.symm; clear f1_ f2_ f3_; subst f4_; subst f5_))
     refine start_ (n := 4) (S := fun w' => w'.cell? ⟨gb440, 0, none⟩ = some (.slice Ao108 x441000_1.length co108) ∧ w'.cell? ⟨gb440, 1, none⟩ = some (.slice Ao110 x441001_1.length co110)) (ds := []) (bs 4 0) (by kernel_rfl) rfl rfl ⟨ce0 BK440, ce1 BK440⟩ (fun hHeld => ?_)
     generalize wr.drew = w107 at HO_7 HO_441000 HO_441001 BK433 BK440 HI0 HK HB hHeld ⊢
     refine pu 0 39 4 1 rfl rfl ?_
     refine pu 2 4 4 5 rfl rfl ?_
     refine ta2 1 40 4 7 rfl rfl hHeld ?_
     refine oz 3 4 15 rfl rfl (fun K hK => ?_)
     have hs109 := ce0 BK433
     have hfs109 := bfz BK433 0
     have hns109_1 := NB440_433.out
     have hms109_1 := NB433_440.out
     have hs111 := ce1 BK433
     have hfs111 := bfz BK433 1
     have hns111_1 := NB440_433.out
     have hms111_1 := NB433_440.out
     refine skip_ (w1 := ?_) (by rfl) rfl ?_ ?_
     rotate_left
     · go_simp
       rfl
     refine hK.out _ _ ⟨((cell_far (p := ⟨gb433, _, none⟩) NB440_433.out _).trans (((cell_far (p := ⟨gb433, _, none⟩) NB440_433.out _).trans (hHeld.1)))), ((cell_far (p := ⟨gb433, _, none⟩) NB440_433.out _).trans (((cell_far (p := ⟨gb433, _, none⟩) NB440_433.out _).trans (hHeld.2))))⟩ (fun hHeld => ?_)
     clear hK K
     refine done_ (by kernel_rfl) ?_
     try go_wp2
     refine bodyPost_ret (results_tc rfl _ _ gb433 31 #[.slice Ao108 x441000_1.length co108, .slice Ao110 x441001_1.length co110] (0, 0) _ rfl (zp BK433) Try.underlying31 rfl (by kernel_rfl)) rfl ?_
     exact ⟨_, _, _, zw, by (with_reducible repeat (first | apply Kd.R_alloc | apply Kd.R_drewN | apply Kd.R_drew)); exact Kd.R_mono (Kd.R_far (p := ⟨gb433, 1, none⟩) (Kd.R_far (p := ⟨gb433, 0, none⟩) (Kd.R_types HO_7.out BK433.out (by decide)) (fun _ hk => hk.2) (.slice Ao108 x441000_1.length co108)) (fun _ hk => hk.2) (.slice Ao110 x441001_1.length co110)) (fun _ hk => trivial), by (with_reducible repeat (first | apply Kd.R_alloc | apply Kd.R_drewN | apply Kd.R_drew)); exact Kd.R_mono (Kd.R_far (p := ⟨gb433, 1, none⟩) (Kd.R_far (p := ⟨gb433, 0, none⟩) (Kd.R_types HO_441000.out BK433.out (by decide)) (fun _ hk => hk.2) (.slice Ao108 x441000_1.length co108)) (fun _ hk => hk.2) (.slice Ao110 x441001_1.length co110)) (fun _ hk => trivial), by (with_reducible repeat (first | apply Kd.S_alloc | apply Kd.S_drewN | apply Kd.S_drew)); exact Kd.S_mono (Kd.S_far (p := ⟨gb433, 1, none⟩) (Kd.S_far (p := ⟨gb433, 0, none⟩) (Kd.S_types HO_441001.out BK433.out (by decide)) (fun _ hk => hk.2) (.slice Ao108 x441000_1.length co108)) (fun _ hk => hk.2) (.slice Ao110 x441001_1.length co110)) (fun _ hk => trivial), (zi HI0), (zb HB), (zh HK)⟩
   rw [if_pos c14] at H
   have c14b0 : decide (x8_1 < a1) = true := decide_eq_true c14
   clear c14
   replace H := obs H
   obtain ⟨⟨t444, t445, t446, t447, t448, t449⟩, A150, H⟩ := H
   replace H : ((spec_l11Copy.f k1 x441000_1 x441001_1).bind fun bt451 => ((spec_l12Do.f k1 bt451.1 bt451.2 t444 t445 t446 t447 t448).bind fun bt457 => ((spec_OpOk.f k1 t444 t445 t446 t447 t448).bind fun t465 => (if t465 = true then (if bt457.2.2 = true then (if x7_1.length < 2199023255552 then (spec_l71Ops.l0 k1 a1 (x7_1 ++ [(⟨t444, t445, t446, t447, t448⟩ : S103)]) (wrap64 (x8_1 + 1)) s0_0 t449 bt457.1 bt457.2.1) else (none)) else (spec_l71Ops.l0 k1 a1 x7_1 (wrap64 (x8_1 + 1)) s0_0 t449 x441000_1 x441001_1)) else (spec_l71Ops.l0 k1 a1 x7_1 (wrap64 (x8_1 + 1)) s0_0 t449 x441000_1 x441001_1))))) = some (r1, r2, r3, r4) := H
   have A15 := am A150
   clear A150
   replace H := obs H
   obtain ⟨⟨t451, t454⟩, A160, H⟩ := H
   replace H : ((spec_l12Do.f k1 t451 t454 t444 t445 t446 t447 t448).bind fun bt457 => ((spec_OpOk.f k1 t444 t445 t446 t447 t448).bind fun t465 => (if t465 = true then (if bt457.2.2 = true then (if x7_1.length < 2199023255552 then (spec_l71Ops.l0 k1 a1 (x7_1 ++ [(⟨t444, t445, t446, t447, t448⟩ : S103)]) (wrap64 (x8_1 + 1)) s0_0 t449 bt457.1 bt457.2.1) else (none)) else (spec_l71Ops.l0 k1 a1 x7_1 (wrap64 (x8_1 + 1)) s0_0 t449 x441000_1 x441001_1)) else (spec_l71Ops.l0 k1 a1 x7_1 (wrap64 (x8_1 + 1)) s0_0 t449 x441000_1 x441001_1)))) = some (r1, r2, r3, r4) := H
   have A16 := am A160
   clear A160
   replace H := obs H
   obtain ⟨⟨t457, t460, t463⟩, A170, H⟩ := H
   replace H : ((spec_OpOk.f k1 t444 t445 t446 t447 t448).bind fun t465 => (if t465 = true then (if t463 = true then (if x7_1.length < 2199023255552 then (spec_l71Ops.l0 k1 a1 (x7_1 ++ [(⟨t444, t445, t446, t447, t448⟩ : S103)]) (wrap64 (x8_1 + 1)) s0_0 t449 t457 t460) else (none)) else (spec_l71Ops.l0 k1 a1 x7_1 (wrap64 (x8_1 + 1)) s0_0 t449 x441000_1 x441001_1)) else (spec_l71Ops.l0 k1 a1 x7_1 (wrap64 (x8_1 + 1)) s0_0 t449 x441000_1 x441001_1))) = some (r1, r2, r3, r4) := H
   have A17 := am A170
   clear A170
   replace H := obs H
   obtain ⟨t465, A180, H⟩ := H
   replace H : (if t465 = true then (if t463 = true then (if x7_1.length < 2199023255552 then (spec_l71Ops.l0 k1 a1 (x7_1 ++ [(⟨t444, t445, t446, t447, t448⟩ : S103)]) (wrap64 (x8_1 + 1)) s0_0 t449 t457 t460) else (none)) else (spec_l71Ops.l0 k1 a1 x7_1 (wrap64 (x8_1 + 1)) s0_0 t449 x441000_1 x441001_1)) else (spec_l71Ops.l0 k1 a1 x7_1 (wrap64 (x8_1 + 1)) s0_0 t449 x441000_1 x441001_1)) = some (r1, r2, r3, r4) := H
   have A18 := am A180
   clear A180
   have HH_ := am H
   clear H
   have hnb81 := NB440_433.out
   have hnc81 := NB433_440.out
   have hnb82 := NB440_0.out
   have hnc82 := NB0_440.out
   have hcz83_0 := ce0 BK440
   have hcz83_1 := ce1 BK440
   have hfz83_0 := bfz BK440 0
   have hfz83_1 := bfz BK440 1
   obtain ⟨Ao84, co84, eo84⟩ := Kd.R_slice HO_441000.out
   subst eo84
   obtain ⟨Ao85, co85, eo85⟩ := Kd.S_slice HO_441001.out
   subst eo85
   try go_wp2_with (first | ((with_reducible refine gate_callee (f := 80) rfl ?_); refine gl Try.func80 21 #[.pointer (some ⟨g, 0, none⟩), .agg #[.slice Ao84 x441000_1.length co84, .slice Ao85 x441001_1.length co85]] rfl rfl rfl ?_; (with_reducible refine (spec_l71Fits.calls k1 g s0_0 x1001_1 _ _ x441000_1 _ _ x441001_1 t444 t445 t446 t447 t448 t449 w0 _ ?side1 ?side2 ?side3 ?side4 ?side5 ?side6 A15.out).mono ?_); (case side1 => exact zi HI0); (case side2 => exact zb HB); (case side3 => exact Kd.C_foot_own (IsS93.apart (zi HI0) (zr HO_441000) (by decide)) (fun _ h_ => h_.2)); (case side4 => exact (Kd.R_reads' HO_441000.out).2.1); (case side5 => exact Kd.C_foot_own ((Kd.S_R (IsS93.apartS (zi HI0) (zs HO_441001) (by decide)))) (fun _ h_ => h_.2)); (case side6 => exact (Kd.S_reads' HO_441001.out).2.1); rintro e w86 ⟨rfl, hi, hb, hk⟩; refine ⟨_, rfl, ?_⟩; replace HO_7 := am (Kd.R_mono (Kd.R_keep (IsS93.apart (zi HI0) (zr HO_7) (by decide)) hk (fun _ h => h.2)) (fun _ h => h.1)); replace HO_441000 := am (Kd.R_mono (Kd.R_keep (IsS93.apart (zi HI0) (zr HO_441000) (by decide)) hk (fun _ h => h.2)) (fun _ h => h.1)); replace HO_441001 := am (Kd.S_mono (Kd.S_keep (IsS93.apartS (zi HI0) (zs HO_441001) (by decide)) hk (fun _ h => h.2)) (fun _ h => h.1)); replace BK433 := am (KeepBut.blk hk (zk BK433) NB433_0.out (by simp)); replace BK440 := am (KeepBut.blk hk (zk BK440) NB440_0.out (by simp)); replace HK := am (KeepBut.trans (zh HK) hk (.inl rfl)); replace HB := am (hb); replace HI0 := am (hi); (try clear hb); (try clear hb2); (try clear hk); (try clear hi)) | ((with_reducible refine gate_dst (N := 9) rfl ?_); refine bx 103 #[.int .i64 0, .string (⟨#[]⟩ : ByteArray), .string (⟨#[]⟩ : ByteArray), .int .i64 0, .string (⟨#[]⟩ : ByteArray)] ?_; intro gb450 hg w87 hbox hb; replace HO_7 := am (Kd.R_below (Kd.R_elderB (zr HO_7) gb450 (Nat.le_of_eq hg.symm)) hb); replace HO_441000 := am (Kd.R_below (zr HO_441000) hb); replace HO_441001 := am (Kd.S_below (zs HO_441001) hb); replace HB := am (below_step (zb HB) hb); have BK450 := am (hbox); have GW450 := am (zm hg (zh HK)); have GE450 := am ((Nat.le_trans HW0.out (zm hg (zh HK)))); replace HK := am (KeepBut.trans (zh HK) (KeepBut.of_below hb g none) (.inl rfl)); have NB433_450 := am (zx hg (zk BK433)); have NB450_433 := am (zy hg (zk BK433)); replace BK433 := am (blk_below (zk BK433) hb); have NB440_450 := am (zx hg (zk BK440)); have NB450_440 := am (zy hg (zk BK440)); replace BK440 := am (blk_below (zk BK440) hb); have NB0_450 := am (ix hg (zi HI0)); have NB450_0 := am (iy hg (zi HI0)); replace HI0 := am (IsS93.below (zi HI0) hb); clear hb hbox hg; have hnb88 := NB450_433.out; have hnc88 := NB433_450.out; have hnb89 := NB450_440.out; have hnc89 := NB440_450.out; have hnb90 := NB450_0.out; have hnc90 := NB0_450.out; have hcz91_0 := ce0 BK450; have hcz91_1 := ce1 BK450; have hcz91_2 := ce2 BK450; have hcz91_3 := ce3 BK450; have hcz91_4 := ce4 BK450; have hfz91_0 := bfz BK450 0; have hfz91_1 := bfz BK450 1; have hfz91_2 := bfz BK450 2; have hfz91_3 := bfz BK450 3; have hfz91_4 := bfz BK450 4))
   have n0_ : Aside0 (Kd.R k103 103 (((((w87.setCell ⟨gb450, 0, none⟩ (.int .i64 t444)).setCell ⟨gb450, 1, none⟩ (.string t445)).setCell ⟨gb450, 2, none⟩ (.string t446)).setCell ⟨gb450, 3, none⟩ (.int .i64 t447)).setCell ⟨gb450, 4, none⟩ (.string t448)) w.heap.size (fun k_ => k_ ≠ gb450) u7 x7_1) := ⟨by (with_reducible repeat (first | apply Kd.R_alloc | apply Kd.R_drewN | apply Kd.R_drew)); exact Kd.R_mono (Kd.R_far (p := ⟨gb450, 4, none⟩) (Kd.R_far (p := ⟨gb450, 3, none⟩) (Kd.R_far (p := ⟨gb450, 2, none⟩) (Kd.R_far (p := ⟨gb450, 1, none⟩) (Kd.R_far (p := ⟨gb450, 0, none⟩) (Kd.R_mono HO_7.out (fun k_ hk => (⟨hk, hk.2⟩ : _ ∧ k_ ≠ gb450))) (fun _ hk => hk.2) (.int .i64 t444)) (fun _ hk => hk.2) (.string t445)) (fun _ hk => hk.2) (.string t446)) (fun _ hk => hk.2) (.int .i64 t447)) (fun _ hk => hk.2) (.string t448)) (fun _ hk => hk.1.2)⟩
   have n1_ : Aside0 (Kd.R k55 55 (((((w87.setCell ⟨gb450, 0, none⟩ (.int .i64 t444)).setCell ⟨gb450, 1, none⟩ (.string t445)).setCell ⟨gb450, 2, none⟩ (.string t446)).setCell ⟨gb450, 3, none⟩ (.int .i64 t447)).setCell ⟨gb450, 4, none⟩ (.string t448)) w.heap.size (fun _ => True) (.slice Ao84 x441000_1.length co84) x441000_1) := ⟨by (with_reducible repeat (first | apply Kd.R_alloc | apply Kd.R_drewN | apply Kd.R_drew)); exact Kd.R_mono (Kd.R_far (p := ⟨gb450, 4, none⟩) (Kd.R_far (p := ⟨gb450, 3, none⟩) (Kd.R_far (p := ⟨gb450, 2, none⟩) (Kd.R_far (p := ⟨gb450, 1, none⟩) (Kd.R_far (p := ⟨gb450, 0, none⟩) (Kd.R_types HO_441000.out BK450.out (by decide)) (fun _ hk => hk.2) (.int .i64 t444)) (fun _ hk => hk.2) (.string t445)) (fun _ hk => hk.2) (.string t446)) (fun _ hk => hk.2) (.int .i64 t447)) (fun _ hk => hk.2) (.string t448)) (fun _ hk => trivial)⟩
   have n2_ : Aside0 (Kd.S k38 38 (((((w87.setCell ⟨gb450, 0, none⟩ (.int .i64 t444)).setCell ⟨gb450, 1, none⟩ (.string t445)).setCell ⟨gb450, 2, none⟩ (.string t446)).setCell ⟨gb450, 3, none⟩ (.int .i64 t447)).setCell ⟨gb450, 4, none⟩ (.string t448)) w.heap.size (fun _ => True) (.slice Ao85 x441001_1.length co85) x441001_1) := ⟨by (with_reducible repeat (first | apply Kd.S_alloc | apply Kd.S_drewN | apply Kd.S_drew)); exact Kd.S_mono (Kd.S_far (p := ⟨gb450, 4, none⟩) (Kd.S_far (p := ⟨gb450, 3, none⟩) (Kd.S_far (p := ⟨gb450, 2, none⟩) (Kd.S_far (p := ⟨gb450, 1, none⟩) (Kd.S_far (p := ⟨gb450, 0, none⟩) (Kd.S_types HO_441001.out BK450.out (by decide)) (fun _ hk => hk.2) (.int .i64 t444)) (fun _ hk => hk.2) (.string t445)) (fun _ hk => hk.2) (.string t446)) (fun _ hk => hk.2) (.int .i64 t447)) (fun _ hk => hk.2) (.string t448)) (fun _ hk => trivial)⟩
   have n3_ : Aside0 ((((((w87.setCell ⟨gb450, 0, none⟩ (.int .i64 t444)).setCell ⟨gb450, 1, none⟩ (.string t445)).setCell ⟨gb450, 2, none⟩ (.string t446)).setCell ⟨gb450, 3, none⟩ (.int .i64 t447)).setCell ⟨gb450, 4, none⟩ (.string t448)).heap[gb433]? = some (.cells #[.slice none 0 0, .slice none 0 0] 31 (0, 0))) := ⟨zk BK433⟩
   have n4_ : Aside0 ((((((w87.setCell ⟨gb450, 0, none⟩ (.int .i64 t444)).setCell ⟨gb450, 1, none⟩ (.string t445)).setCell ⟨gb450, 2, none⟩ (.string t446)).setCell ⟨gb450, 3, none⟩ (.int .i64 t447)).setCell ⟨gb450, 4, none⟩ (.string t448)).heap[gb440]? = some (.cells #[.slice Ao84 x441000_1.length co84, .slice Ao85 x441001_1.length co85] 31 (0, 0))) := ⟨zk BK440⟩
   have n5_ : Aside0 ((((((w87.setCell ⟨gb450, 0, none⟩ (.int .i64 t444)).setCell ⟨gb450, 1, none⟩ (.string t445)).setCell ⟨gb450, 2, none⟩ (.string t446)).setCell ⟨gb450, 3, none⟩ (.int .i64 t447)).setCell ⟨gb450, 4, none⟩ (.string t448)).heap[gb450]? = some (.cells #[.int .i64 t444, .string t445, .string t446, .int .i64 t447, .string t448] 103 (0, 0))) := ⟨zp BK450⟩
   have n6_ : Aside0 (IsS93 w0 (((((w87.setCell ⟨gb450, 0, none⟩ (.int .i64 t444)).setCell ⟨gb450, 1, none⟩ (.string t445)).setCell ⟨gb450, 2, none⟩ (.string t446)).setCell ⟨gb450, 3, none⟩ (.int .i64 t447)).setCell ⟨gb450, 4, none⟩ (.string t448)) g s0_0 t449) := ⟨zi HI0⟩
   have n7_ : Aside0 (KeepBut w (((((w87.setCell ⟨gb450, 0, none⟩ (.int .i64 t444)).setCell ⟨gb450, 1, none⟩ (.string t445)).setCell ⟨gb450, 2, none⟩ (.string t446)).setCell ⟨gb450, 3, none⟩ (.int .i64 t447)).setCell ⟨gb450, 4, none⟩ (.string t448)) g none) := ⟨zh HK⟩
   have n8_ : Aside0 (Below w0.heap.size w0 (((((w87.setCell ⟨gb450, 0, none⟩ (.int .i64 t444)).setCell ⟨gb450, 1, none⟩ (.string t445)).setCell ⟨gb450, 2, none⟩ (.string t446)).setCell ⟨gb450, 3, none⟩ (.int .i64 t447)).setCell ⟨gb450, 4, none⟩ (.string t448))) := ⟨zb HB⟩
   (try clear HO_7)
   (try clear HO_441000)
   (try clear HO_441001)
   (try clear BK433)
   (try clear BK440)
   (try clear BK450)
   (try clear HI0)
   (try clear HK)
   (try clear HB)
   generalize (((((w87.setCell ⟨gb450, 0, none⟩ (.int .i64 t444)).setCell ⟨gb450, 1, none⟩ (.string t445)).setCell ⟨gb450, 2, none⟩ (.string t446)).setCell ⟨gb450, 3, none⟩ (.int .i64 t447)).setCell ⟨gb450, 4, none⟩ (.string t448)) = w92 at n0_ n1_ n2_ n3_ n4_ n5_ n6_ n7_ n8_ ⊢
   have HO_7 := n0_
   have HO_441000 := n1_
   have HO_441001 := n2_
   have BK433 := n3_
   have BK440 := n4_
   have BK450 := n5_
   have HI0 := n6_
   have HK := n7_
   have HB := n8_
   clear n0_ n1_ n2_ n3_ n4_ n5_ n6_ n7_ n8_
   replace HO_7 := am (Kd.R_drew HO_7.out)
   replace HO_441000 := am (Kd.R_drew HO_441000.out)
   replace HO_441001 := am (Kd.S_drew HO_441001.out)
   replace BK433 := am (blk_drew BK433.out)
   replace BK440 := am (blk_drew BK440.out)
   replace BK450 := am (blk_drew BK450.out)
   replace HI0 := am (IsS93.drew HI0.out)
   replace HK := am (keep_drew HK.out)
   replace HB := am (below_drew1 HB.out)
   refine start_ (n := 10) (S := fun w' => w'.cell? ⟨gb440, 0, none⟩ = some (.slice Ao84 x441000_1.length co84) ∧ w'.cell? ⟨gb440, 1, none⟩ = some (.slice Ao85 x441001_1.length co85) ∧ w'.cell? ⟨gb450, 0, none⟩ = some (.int .i64 t444) ∧ w'.cell? ⟨gb450, 1, none⟩ = some (.string t445) ∧ w'.cell? ⟨gb450, 2, none⟩ = some (.string t446) ∧ w'.cell? ⟨gb450, 3, none⟩ = some (.int .i64 t447) ∧ w'.cell? ⟨gb450, 4, none⟩ = some (.string t448)) (ds := []) (bs 10 0) (by kernel_rfl) rfl rfl ⟨ce0 BK440, ce1 BK440, ce0 BK450, ce1 BK450, ce2 BK450, ce3 BK450, ce4 BK450⟩ (fun hHeld => ?_); refine with_tabW spec_l71Ops.tab7 spec_l71Ops.bits7 (fun HT_ HW_ => ?_)
   generalize w92.drew = w93 at HO_7 HO_441000 HO_441001 BK433 BK440 BK450 HI0 HK HB hHeld ⊢
   refine ta7 0 23 10 1 rfl rfl hHeld ?_
   refine ta7 2 25 10 5 rfl rfl hHeld ?_
   refine join_ (σ := Value × Value × Value × Value × Nat) 2 (bs 10 255) (fun s_ => [(24, .agg #[s_.1, s_.2.1]), (26, .tuple #[.agg #[s_.2.2.1, s_.2.2.2.1], .bool t463]), (10, .pointer (some ⟨s_.2.2.2.2, 0, none⟩)), (22, .tuple #[.agg #[s_.2.2.1, s_.2.2.2.1], .bool t463]), (27, .agg #[s_.2.2.1, s_.2.2.2.1]), (28, .bool t463)]) (fun s_ w' => (w'.cell? ⟨gb440, 0, none⟩ = some (.slice Ao84 x441000_1.length co84) ∧ w'.cell? ⟨gb440, 1, none⟩ = some (.slice Ao85 x441001_1.length co85) ∧ w'.cell? ⟨gb450, 0, none⟩ = some (.int .i64 t444) ∧ w'.cell? ⟨gb450, 1, none⟩ = some (.string t445) ∧ w'.cell? ⟨gb450, 2, none⟩ = some (.string t446) ∧ w'.cell? ⟨gb450, 3, none⟩ = some (.int .i64 t447) ∧ w'.cell? ⟨gb450, 4, none⟩ = some (.string t448)) ∧ (Kd.R k55 55 w' w.heap.size (fun _ => True) s_.2.2.1 t457) ∧ (Kd.S k38 38 w' w.heap.size (fun _ => True) s_.2.2.2.1 t460) ∧ (Kd.R k55 55 w' w.heap.size (fun _ => True) (.slice Ao84 x441000_1.length co84) x441000_1) ∧ (Kd.S k38 38 w' w.heap.size (fun _ => True) (.slice Ao85 x441001_1.length co85) x441001_1) ∧ (Kd.R k103 103 w' w.heap.size (fun k_ => k_ ≠ gb450) u7 x7_1) ∧ (w'.heap[gb433]? = some (.cells #[.slice none 0 0, .slice none 0 0] 31 (0, 0))) ∧ (w'.heap[gb440]? = some (.cells #[.slice Ao84 x441000_1.length co84, .slice Ao85 x441001_1.length co85] 31 (0, 0))) ∧ (w'.heap[gb450]? = some (.cells #[.int .i64 t444, .string t445, .string t446, .int .i64 t447, .string t448] 103 (0, 0))) ∧ (w'.heap[s_.2.2.2.2]? = some (.cells #[.slice none 0 0, .slice none 0 0] 31 (0, 0))) ∧ (w.heap.size ≤ s_.2.2.2.2) ∧ (w0.heap.size ≤ s_.2.2.2.2) ∧ (g ≠ s_.2.2.2.2) ∧ (s_.2.2.2.2 ≠ g) ∧ (gb433 ≠ s_.2.2.2.2) ∧ (s_.2.2.2.2 ≠ gb433) ∧ (gb440 ≠ s_.2.2.2.2) ∧ (s_.2.2.2.2 ≠ gb440) ∧ (gb450 ≠ s_.2.2.2.2) ∧ (s_.2.2.2.2 ≠ gb450) ∧ (IsS93 w0 w' g s0_0 t449) ∧ (KeepBut w w' g none) ∧ (Below w0.heap.size w0 w')) ?_ ?_
   rotate_left
   · intro hCont
     refine two_ (i := 1) (j := 7) (Ni := some 24) (Nj := some 10) (bs 10 7) (bs 10 133) rfl rfl rfl rfl (two_of HT_.out (by kernel_rfl)) (by decide) (by decide) (fun K hK => ?_) (fun K hK => ?_)
     · skip
       refine gs Try.func82 #[.agg #[.slice Ao84 x441000_1.length co84, .slice Ao85 x441001_1.length co85]] rfl rfl ?_
       with_reducible refine (spec_l11Copy.calls k1 _ _ x441000_1 _ _ x441001_1 t451 t454 _ ?side1 ?side2 ?side3 ?side4 A16.out).mono ?_
       (case side1 => exact zc (Kd.R_reads' HO_441000.out).2.2)
       (case side2 => exact (Kd.R_reads' HO_441000.out).2.1)
       (case side3 => exact zc (Kd.S_reads' HO_441001.out).2.2)
       (case side4 => exact (Kd.S_reads' HO_441001.out).2.1)
       rintro e w94 ⟨v452, v455, rfl, ho0, ho1, hb⟩
       refine ⟨_, rfl, ?_⟩
       replace HO_7 := am (Kd.R_below (zr HO_7) hb)
       have HO453 := am (Kd.R_lower (Kd.R_new' ho0 (Kd.R_lt (zr HO_441000))) (keep_size (zh HK)))
       replace HO_441000 := am (Kd.R_elder' (zr HO_441000) (Kd.R_base ho0) hb)
       have HO456 := am (Kd.S_lower (Kd.S_new' ho1 (Kd.S_lt (zs HO_441001))) (keep_size (zh HK)))
       replace HO_441001 := am (Kd.S_elder' (zs HO_441001) (Kd.S_base ho1) hb)
       replace BK433 := am (blk_below (zk BK433) hb)
       replace BK440 := am (blk_below (zk BK440) hb)
       replace HI0 := am (IsS93.below (zi HI0) hb)
       replace BK450 := am (blk_below (zk BK450) hb)
       replace HK := am (KeepBut.trans (zh HK) (KeepBut.of_below hb g none) (.inl rfl))
       replace HB := am (below_step (zb HB) hb)
       (try clear hb)
       (try clear hb2)
       (try clear hk)
       (try clear hi)
       (try clear ho0)
       (try clear ho1)
       obtain ⟨Ao95, co95, eo95⟩ := Kd.R_slice HO453.out
       (first | subst eo95 | (injection eo95 with f1_ f2_ f3_; have f4_ := f1_.symm; have f5_ := f3_.symm; clear f1_ f2_ f3_; subst f4_; subst f5_))
       obtain ⟨Ao96, co96, eo96⟩ := Kd.S_slice HO456.out
       (first | subst eo96 | (injection eo96 with f1_ f2_ f3_; have f4_ := f1_.symm; have f5_ := f3_.symm; clear f1_ f2_ f3_; subst f4_; subst f5_))
       refine hK.out _ _ ⟨ce0 BK440, ce1 BK440, ce0 BK450, ce1 BK450, ce2 BK450, ce3 BK450, ce4 BK450⟩ (fun hHeld => ?_)
       clear hK K
       refine norm_ (a' := ?_) ?_ ?_
       rotate_left
       · show Act.put _ (some 24) _ = _
         simp only [Act.put, List.setIfInBounds_toArray, List.set_cons_zero, List.set_cons_succ, i64_w, i32_w]
         rfl
       refine two_ (i := 3) (j := 7) (Ni := some 26) (Nj := some 10) (bs 10 15) (bs 10 135) rfl rfl rfl rfl (two_of HT_.out (by kernel_rfl)) (by decide) (by decide) (fun K hK => ?_) (fun K hK => ?_)
       · skip
         refine gs Try.func81 #[.agg #[.slice Ao95 t451.length co95, .slice Ao96 t454.length co96], .agg #[.int .i64 t444, .string t445, .string t446, .int .i64 t447, .string t448]] rfl rfl ?_
         with_reducible refine (spec_l12Do.callsB k1 (fun k_ => some k_ = (.slice Ao95 t451.length co95 : Value).ownBlock) (.slice Ao95 t451.length co95) t451 (fun k_ => some k_ = (.slice Ao96 t454.length co96 : Value).ownBlock) (.slice Ao96 t454.length co96) t454 t444 t445 t446 t447 t448 t457 t460 t463 w0 _ w.heap.size ?side1 HL.out ?sbw ?side2 ?side3 A17.out).mono ?_
         (case side1 => exact zb HB)
         (case side2 => exact Kd.R_tight rfl HO453.out)
         (case side3 => exact Kd.S_mono (HO456.out) (fun _ _ => trivial))
         (case sbw => exact keep_size (w := w) (g := g) (row := none) (zh HK))
         rintro e w97 ⟨v458, v461, rfl, ho0, ho1, hb, hkp⟩
         refine ⟨_, rfl, ?_⟩
         replace HO_7 := am (Kd.R_mono (ok' := fun k_ => k_ ≠ gb450) (Kd.R_keptB ((Kd.R_apart' (Kd.R_apart' HO_7.out (Kd.R_typed HO453.out) (by decide)) (Kd.S_typed HO456.out) (by decide))) hkp (fun k_ hk_ hs_ => Or.elim hs_ (fun e_ => (hk_.1.2) e_) (fun e_ => (hk_.2) e_))) (fun k_ hk_ => hk_.1.1.1))
         replace HO_441000 := am (Kd.R_mono (ok' := fun k_ => True) (Kd.R_keptB ((Kd.R_apart' HO_441000.out (Kd.S_typed HO456.out) (by decide))) hkp (fun k_ hk_ hs_ => Or.elim hs_ (fun e_ => (hk_.1.2) e_) (fun e_ => (hk_.2) e_))) (fun k_ hk_ => trivial))
         replace HO_441001 := am (Kd.S_mono (ok' := fun k_ => True) (Kd.S_keptB ((Kd.S_apart' HO_441001.out (Kd.R_typed HO453.out) (by decide))) hkp (fun k_ hk_ hs_ => Or.elim hs_ (fun e_ => (hk_.2) e_) (fun e_ => (hk_.1.2) e_))) (fun k_ hk_ => trivial))
         replace BK433 := am (blk_kept (zk BK433) hkp (fun hs_ => Or.elim hs_ (fun e_ => (fun e_ => (Kd.R_ne HO453.out BK433.out (by decide)) e_) e_) (fun e_ => (fun e_ => (Kd.S_ne HO456.out BK433.out (by decide)) e_) e_)))
         replace BK440 := am (blk_kept (zk BK440) hkp (fun hs_ => Or.elim hs_ (fun e_ => (fun e_ => (Kd.R_ne HO453.out BK440.out (by decide)) e_) e_) (fun e_ => (fun e_ => (Kd.S_ne HO456.out BK440.out (by decide)) e_) e_)))
         replace HI0 := am (IsS93.kept (zi HI0) hkp (fun hs_ => Or.elim hs_ (fun e_ => (fun e_ => (IsS93.own_ne HI0.out HO453.out (by decide)) e_) e_) (fun e_ => (fun e_ => (IsS93.own_neS HI0.out HO456.out (by decide)) e_) e_)))
         replace BK450 := am (blk_kept (zk BK450) hkp (fun hs_ => Or.elim hs_ (fun e_ => (fun e_ => (Kd.R_ne HO453.out BK450.out (by decide)) e_) e_) (fun e_ => (fun e_ => (Kd.S_ne HO456.out BK450.out (by decide)) e_) e_)))
         have HO459 := am (ho0)
         have HO462 := am (ho1)
         replace HK := am (Kept.keepG (zh HK) hkp (fun k_ hs_ => Or.elim hs_ (fun e_ => (fun e_ => .inr (Kd.R_base HO453.out k_ e_.symm)) e_) (fun e_ => (fun e_ => .inr (Kd.S_base HO456.out k_ e_.symm)) e_)))
         replace HB := am (hb)
         clear HO453 HO456
         (try clear hb)
         (try clear hkp)
         (try clear ho0)
         (try clear ho1)
         refine hK.out _ _ ⟨ce0 BK440, ce1 BK440, ce0 BK450, ce1 BK450, ce2 BK450, ce3 BK450, ce4 BK450⟩ (fun hHeld => ?_)
         clear hK K
         refine norm_ (a' := ?_) ?_ ?_
         rotate_left
         · show Act.put _ (some 26) _ = _
           simp only [Act.put, List.setIfInBounds_toArray, List.set_cons_zero, List.set_cons_succ, i64_w, i32_w]
           rfl
         refine pu 4 22 10 31 rfl rfl ?_
         refine pu 5 27 10 63 rfl rfl ?_
         refine pu 6 28 10 127 rfl rfl ?_
         refine oz 7 10 255 rfl rfl (fun K hK => ?_)
         refine box_step ?hg (N := 10) ?hd (cs := #[.slice none 0 0, .slice none 0 0]) (t := 31) ?hr ?_; (case hd => rfl); (case hg => rfl); (case hr => first | (go_simp; done) | (go_simp; rfl))
         intro gb464 hg w98 hbox hb
         replace HO_7 := am (Kd.R_below (zr HO_7) hb)
         replace HO_441000 := am (Kd.R_below (zr HO_441000) hb)
         replace HO_441001 := am (Kd.S_below (zs HO_441001) hb)
         replace HO459 := am (Kd.R_below (zr HO459) hb)
         replace HO462 := am (Kd.S_below (zs HO462) hb)
         replace HB := am (below_step (zb HB) hb)
         have BK464 := am (hbox)
         have GW464 := am (zm hg (zh HK))
         have GE464 := am ((Nat.le_trans HW0.out (zm hg (zh HK))))
         replace HK := am (KeepBut.trans (zh HK) (KeepBut.of_below hb g none) (.inl rfl))
         have NB433_464 := am (zx hg (zk BK433))
         have NB464_433 := am (zy hg (zk BK433))
         replace BK433 := am (blk_below (zk BK433) hb)
         have NB440_464 := am (zx hg (zk BK440))
         have NB464_440 := am (zy hg (zk BK440))
         replace BK440 := am (blk_below (zk BK440) hb)
         have NB450_464 := am (zx hg (zk BK450))
         have NB464_450 := am (zy hg (zk BK450))
         replace BK450 := am (blk_below (zk BK450) hb)
         have NB0_464 := am (ix hg (zi HI0))
         have NB464_0 := am (iy hg (zi HI0))
         replace HI0 := am (IsS93.below (zi HI0) hb)
         clear hb hbox hg
         refine hK.out _ _ ⟨ce0 BK440, ce1 BK440, ce0 BK450, ce1 BK450, ce2 BK450, ce3 BK450, ce4 BK450⟩ (fun hHeld => ?_)
         clear hK K
         refine norm_ (a' := ?_) ?_ ?_
         rotate_left
         · show Act.put _ (some 10) _ = _
           simp only [Act.put, List.setIfInBounds_toArray, List.set_cons_zero, List.set_cons_succ, i64_w, i32_w]
           rfl
         exact norm_ (by simp only [putAll, Act.put, List.setIfInBounds_toArray, List.set_cons_zero, List.set_cons_succ]) (hCont (.slice Ao95 t451.length co95, .slice Ao96 t454.length co96, v458, v461, gb464) _ ⟨hHeld, (zr HO459), (zs HO462), (zr HO_441000), (zs HO_441001), (zr HO_7), (zk BK433), (zk BK440), (zk BK450), (zk BK464), GW464.out, GE464.out, NB0_464.out, NB464_0.out, NB433_464.out, NB464_433.out, NB440_464.out, NB464_440.out, NB450_464.out, NB464_450.out, (zi HI0), (zh HK), (zb HB)⟩)
       skip
       refine box_step ?hg (N := 10) ?hd (cs := #[.slice none 0 0, .slice none 0 0]) (t := 31) ?hr ?_; (case hd => rfl); (case hg => rfl); (case hr => first | (go_simp; done) | (go_simp; rfl))
       intro gb464 hg w95 hbox hb
       replace HO_7 := am (Kd.R_below (zr HO_7) hb)
       replace HO_441000 := am (Kd.R_below (zr HO_441000) hb)
       replace HO_441001 := am (Kd.S_below (zs HO_441001) hb)
       replace HO453 := am (Kd.R_below (zr HO453) hb)
       replace HO456 := am (Kd.S_below (zs HO456) hb)
       replace HB := am (below_step (zb HB) hb)
       have BK464 := am (hbox)
       have GW464 := am (zm hg (zh HK))
       have GE464 := am ((Nat.le_trans HW0.out (zm hg (zh HK))))
       replace HK := am (KeepBut.trans (zh HK) (KeepBut.of_below hb g none) (.inl rfl))
       have NB433_464 := am (zx hg (zk BK433))
       have NB464_433 := am (zy hg (zk BK433))
       replace BK433 := am (blk_below (zk BK433) hb)
       have NB440_464 := am (zx hg (zk BK440))
       have NB464_440 := am (zy hg (zk BK440))
       replace BK440 := am (blk_below (zk BK440) hb)
       have NB450_464 := am (zx hg (zk BK450))
       have NB464_450 := am (zy hg (zk BK450))
       replace BK450 := am (blk_below (zk BK450) hb)
       have NB0_464 := am (ix hg (zi HI0))
       have NB464_0 := am (iy hg (zi HI0))
       replace HI0 := am (IsS93.below (zi HI0) hb)
       clear hb hbox hg
       obtain ⟨Ao96, co96, eo96⟩ := Kd.R_slice HO453.out
       (first | subst eo96 | (injection eo96 with f1_ f2_ f3_; have f4_ := f1_.symm; have f5_ := f3_.symm; clear f1_ f2_ f3_; subst f4_; subst f5_))
       obtain ⟨Ao97, co97, eo97⟩ := Kd.S_slice HO456.out
       (first | subst eo97 | (injection eo97 with f1_ f2_ f3_; have f4_ := f1_.symm; have f5_ := f3_.symm; clear f1_ f2_ f3_; subst f4_; subst f5_))
       refine hK.out _ _ ⟨ce0 BK440, ce1 BK440, ce0 BK450, ce1 BK450, ce2 BK450, ce3 BK450, ce4 BK450⟩ (fun hHeld => ?_)
       clear hK K
       refine norm_ (a' := ?_) ?_ ?_
       rotate_left
       · show Act.put _ (some 10) _ = _
         simp only [Act.put, List.setIfInBounds_toArray, List.set_cons_zero, List.set_cons_succ, i64_w, i32_w]
         rfl
       refine oz 3 10 143 rfl rfl (fun K hK => ?_)
       refine gs Try.func81 #[.agg #[.slice Ao96 t451.length co96, .slice Ao97 t454.length co97], .agg #[.int .i64 t444, .string t445, .string t446, .int .i64 t447, .string t448]] rfl rfl ?_
       with_reducible refine (spec_l12Do.callsB k1 (fun k_ => some k_ = (.slice Ao96 t451.length co96 : Value).ownBlock) (.slice Ao96 t451.length co96) t451 (fun k_ => some k_ = (.slice Ao97 t454.length co97 : Value).ownBlock) (.slice Ao97 t454.length co97) t454 t444 t445 t446 t447 t448 t457 t460 t463 w0 _ w.heap.size ?side1 HL.out ?sbw ?side2 ?side3 A17.out).mono ?_
       (case side1 => exact zb HB)
       (case side2 => exact Kd.R_tight rfl HO453.out)
       (case side3 => exact Kd.S_mono (HO456.out) (fun _ _ => trivial))
       (case sbw => exact keep_size (w := w) (g := g) (row := none) (zh HK))
       rintro e w98 ⟨v458, v461, rfl, ho0, ho1, hb, hkp⟩
       refine ⟨_, rfl, ?_⟩
       replace HO_7 := am (Kd.R_mono (ok' := fun k_ => k_ ≠ gb450) (Kd.R_keptB ((Kd.R_apart' (Kd.R_apart' HO_7.out (Kd.R_typed HO453.out) (by decide)) (Kd.S_typed HO456.out) (by decide))) hkp (fun k_ hk_ hs_ => Or.elim hs_ (fun e_ => (hk_.1.2) e_) (fun e_ => (hk_.2) e_))) (fun k_ hk_ => hk_.1.1.1))
       replace HO_441000 := am (Kd.R_mono (ok' := fun k_ => True) (Kd.R_keptB ((Kd.R_apart' HO_441000.out (Kd.S_typed HO456.out) (by decide))) hkp (fun k_ hk_ hs_ => Or.elim hs_ (fun e_ => (hk_.1.2) e_) (fun e_ => (hk_.2) e_))) (fun k_ hk_ => trivial))
       replace HO_441001 := am (Kd.S_mono (ok' := fun k_ => True) (Kd.S_keptB ((Kd.S_apart' HO_441001.out (Kd.R_typed HO453.out) (by decide))) hkp (fun k_ hk_ hs_ => Or.elim hs_ (fun e_ => (hk_.2) e_) (fun e_ => (hk_.1.2) e_))) (fun k_ hk_ => trivial))
       replace BK433 := am (blk_kept (zk BK433) hkp (fun hs_ => Or.elim hs_ (fun e_ => (fun e_ => (Kd.R_ne HO453.out BK433.out (by decide)) e_) e_) (fun e_ => (fun e_ => (Kd.S_ne HO456.out BK433.out (by decide)) e_) e_)))
       replace BK440 := am (blk_kept (zk BK440) hkp (fun hs_ => Or.elim hs_ (fun e_ => (fun e_ => (Kd.R_ne HO453.out BK440.out (by decide)) e_) e_) (fun e_ => (fun e_ => (Kd.S_ne HO456.out BK440.out (by decide)) e_) e_)))
       replace HI0 := am (IsS93.kept (zi HI0) hkp (fun hs_ => Or.elim hs_ (fun e_ => (fun e_ => (IsS93.own_ne HI0.out HO453.out (by decide)) e_) e_) (fun e_ => (fun e_ => (IsS93.own_neS HI0.out HO456.out (by decide)) e_) e_)))
       replace BK450 := am (blk_kept (zk BK450) hkp (fun hs_ => Or.elim hs_ (fun e_ => (fun e_ => (Kd.R_ne HO453.out BK450.out (by decide)) e_) e_) (fun e_ => (fun e_ => (Kd.S_ne HO456.out BK450.out (by decide)) e_) e_)))
       replace BK464 := am (blk_kept (zk BK464) hkp (fun hs_ => Or.elim hs_ (fun e_ => (fun e_ => (Kd.R_ne HO453.out BK464.out (by decide)) e_) e_) (fun e_ => (fun e_ => (Kd.S_ne HO456.out BK464.out (by decide)) e_) e_)))
       have HO459 := am (ho0)
       have HO462 := am (ho1)
       replace HK := am (Kept.keepG (zh HK) hkp (fun k_ hs_ => Or.elim hs_ (fun e_ => (fun e_ => .inr (Kd.R_base HO453.out k_ e_.symm)) e_) (fun e_ => (fun e_ => .inr (Kd.S_base HO456.out k_ e_.symm)) e_)))
       replace HB := am (hb)
       clear HO453 HO456
       (try clear hb)
       (try clear hkp)
       (try clear ho0)
       (try clear ho1)
       refine hK.out _ _ ⟨ce0 BK440, ce1 BK440, ce0 BK450, ce1 BK450, ce2 BK450, ce3 BK450, ce4 BK450⟩ (fun hHeld => ?_)
       clear hK K
       refine norm_ (a' := ?_) ?_ ?_
       rotate_left
       · show Act.put _ (some 26) _ = _
         simp only [Act.put, List.setIfInBounds_toArray, List.set_cons_zero, List.set_cons_succ, i64_w, i32_w]
         rfl
       refine pu 4 22 10 159 rfl rfl ?_
       refine pu 5 27 10 191 rfl rfl ?_
       refine pu 6 28 10 255 rfl rfl ?_
       exact norm_ (by simp only [putAll, Act.put, List.setIfInBounds_toArray, List.set_cons_zero, List.set_cons_succ]) (hCont (.slice Ao96 t451.length co96, .slice Ao97 t454.length co97, v458, v461, gb464) _ ⟨hHeld, (zr HO459), (zs HO462), (zr HO_441000), (zs HO_441001), (zr HO_7), (zk BK433), (zk BK440), (zk BK450), (zk BK464), GW464.out, GE464.out, NB0_464.out, NB464_0.out, NB433_464.out, NB464_433.out, NB440_464.out, NB464_440.out, NB450_464.out, NB464_450.out, (zi HI0), (zh HK), (zb HB)⟩)
     skip
     refine box_step ?hg (N := 10) ?hd (cs := #[.slice none 0 0, .slice none 0 0]) (t := 31) ?hr ?_; (case hd => rfl); (case hg => rfl); (case hr => first | (go_simp; done) | (go_simp; rfl))
     intro gb464 hg w94 hbox hb
     replace HO_7 := am (Kd.R_below (zr HO_7) hb)
     replace HO_441000 := am (Kd.R_below (zr HO_441000) hb)
     replace HO_441001 := am (Kd.S_below (zs HO_441001) hb)
     replace HB := am (below_step (zb HB) hb)
     have BK464 := am (hbox)
     have GW464 := am (zm hg (zh HK))
     have GE464 := am ((Nat.le_trans HW0.out (zm hg (zh HK))))
     replace HK := am (KeepBut.trans (zh HK) (KeepBut.of_below hb g none) (.inl rfl))
     have NB433_464 := am (zx hg (zk BK433))
     have NB464_433 := am (zy hg (zk BK433))
     replace BK433 := am (blk_below (zk BK433) hb)
     have NB440_464 := am (zx hg (zk BK440))
     have NB464_440 := am (zy hg (zk BK440))
     replace BK440 := am (blk_below (zk BK440) hb)
     have NB450_464 := am (zx hg (zk BK450))
     have NB464_450 := am (zy hg (zk BK450))
     replace BK450 := am (blk_below (zk BK450) hb)
     have NB0_464 := am (ix hg (zi HI0))
     have NB464_0 := am (iy hg (zi HI0))
     replace HI0 := am (IsS93.below (zi HI0) hb)
     clear hb hbox hg
     refine hK.out _ _ ⟨ce0 BK440, ce1 BK440, ce0 BK450, ce1 BK450, ce2 BK450, ce3 BK450, ce4 BK450⟩ (fun hHeld => ?_)
     clear hK K
     refine norm_ (a' := ?_) ?_ ?_
     rotate_left
     · show Act.put _ (some 10) _ = _
       simp only [Act.put, List.setIfInBounds_toArray, List.set_cons_zero, List.set_cons_succ, i64_w, i32_w]
       rfl
     refine oz 1 10 135 rfl rfl (fun K hK => ?_)
     refine gs Try.func82 #[.agg #[.slice Ao84 x441000_1.length co84, .slice Ao85 x441001_1.length co85]] rfl rfl ?_
     with_reducible refine (spec_l11Copy.calls k1 _ _ x441000_1 _ _ x441001_1 t451 t454 _ ?side1 ?side2 ?side3 ?side4 A16.out).mono ?_
     (case side1 => exact zc (Kd.R_reads' HO_441000.out).2.2)
     (case side2 => exact (Kd.R_reads' HO_441000.out).2.1)
     (case side3 => exact zc (Kd.S_reads' HO_441001.out).2.2)
     (case side4 => exact (Kd.S_reads' HO_441001.out).2.1)
     rintro e w95 ⟨v452, v455, rfl, ho0, ho1, hb⟩
     refine ⟨_, rfl, ?_⟩
     replace HO_7 := am (Kd.R_below (zr HO_7) hb)
     have HO453 := am (Kd.R_lower (Kd.R_new' ho0 (Kd.R_lt (zr HO_441000))) (keep_size (zh HK)))
     replace HO_441000 := am (Kd.R_elder' (zr HO_441000) (Kd.R_base ho0) hb)
     have HO456 := am (Kd.S_lower (Kd.S_new' ho1 (Kd.S_lt (zs HO_441001))) (keep_size (zh HK)))
     replace HO_441001 := am (Kd.S_elder' (zs HO_441001) (Kd.S_base ho1) hb)
     replace BK433 := am (blk_below (zk BK433) hb)
     replace BK440 := am (blk_below (zk BK440) hb)
     replace HI0 := am (IsS93.below (zi HI0) hb)
     replace BK450 := am (blk_below (zk BK450) hb)
     replace BK464 := am (blk_below (zk BK464) hb)
     replace HK := am (KeepBut.trans (zh HK) (KeepBut.of_below hb g none) (.inl rfl))
     replace HB := am (below_step (zb HB) hb)
     (try clear hb)
     (try clear hb2)
     (try clear hk)
     (try clear hi)
     (try clear ho0)
     (try clear ho1)
     obtain ⟨Ao96, co96, eo96⟩ := Kd.R_slice HO453.out
     (first | subst eo96 | (injection eo96 with f1_ f2_ f3_; have f4_ := f1_.symm; have f5_ := f3_.symm; clear f1_ f2_ f3_; subst f4_; subst f5_))
     obtain ⟨Ao97, co97, eo97⟩ := Kd.S_slice HO456.out
     (first | subst eo97 | (injection eo97 with f1_ f2_ f3_; have f4_ := f1_.symm; have f5_ := f3_.symm; clear f1_ f2_ f3_; subst f4_; subst f5_))
     refine hK.out _ _ ⟨ce0 BK440, ce1 BK440, ce0 BK450, ce1 BK450, ce2 BK450, ce3 BK450, ce4 BK450⟩ (fun hHeld => ?_)
     clear hK K
     refine norm_ (a' := ?_) ?_ ?_
     rotate_left
     · show Act.put _ (some 24) _ = _
       simp only [Act.put, List.setIfInBounds_toArray, List.set_cons_zero, List.set_cons_succ, i64_w, i32_w]
       rfl
     refine oz 3 10 143 rfl rfl (fun K hK => ?_)
     refine gs Try.func81 #[.agg #[.slice Ao96 t451.length co96, .slice Ao97 t454.length co97], .agg #[.int .i64 t444, .string t445, .string t446, .int .i64 t447, .string t448]] rfl rfl ?_
     with_reducible refine (spec_l12Do.callsB k1 (fun k_ => some k_ = (.slice Ao96 t451.length co96 : Value).ownBlock) (.slice Ao96 t451.length co96) t451 (fun k_ => some k_ = (.slice Ao97 t454.length co97 : Value).ownBlock) (.slice Ao97 t454.length co97) t454 t444 t445 t446 t447 t448 t457 t460 t463 w0 _ w.heap.size ?side1 HL.out ?sbw ?side2 ?side3 A17.out).mono ?_
     (case side1 => exact zb HB)
     (case side2 => exact Kd.R_tight rfl HO453.out)
     (case side3 => exact Kd.S_mono (HO456.out) (fun _ _ => trivial))
     (case sbw => exact keep_size (w := w) (g := g) (row := none) (zh HK))
     rintro e w98 ⟨v458, v461, rfl, ho0, ho1, hb, hkp⟩
     refine ⟨_, rfl, ?_⟩
     replace HO_7 := am (Kd.R_mono (ok' := fun k_ => k_ ≠ gb450) (Kd.R_keptB ((Kd.R_apart' (Kd.R_apart' HO_7.out (Kd.R_typed HO453.out) (by decide)) (Kd.S_typed HO456.out) (by decide))) hkp (fun k_ hk_ hs_ => Or.elim hs_ (fun e_ => (hk_.1.2) e_) (fun e_ => (hk_.2) e_))) (fun k_ hk_ => hk_.1.1.1))
     replace HO_441000 := am (Kd.R_mono (ok' := fun k_ => True) (Kd.R_keptB ((Kd.R_apart' HO_441000.out (Kd.S_typed HO456.out) (by decide))) hkp (fun k_ hk_ hs_ => Or.elim hs_ (fun e_ => (hk_.1.2) e_) (fun e_ => (hk_.2) e_))) (fun k_ hk_ => trivial))
     replace HO_441001 := am (Kd.S_mono (ok' := fun k_ => True) (Kd.S_keptB ((Kd.S_apart' HO_441001.out (Kd.R_typed HO453.out) (by decide))) hkp (fun k_ hk_ hs_ => Or.elim hs_ (fun e_ => (hk_.2) e_) (fun e_ => (hk_.1.2) e_))) (fun k_ hk_ => trivial))
     replace BK433 := am (blk_kept (zk BK433) hkp (fun hs_ => Or.elim hs_ (fun e_ => (fun e_ => (Kd.R_ne HO453.out BK433.out (by decide)) e_) e_) (fun e_ => (fun e_ => (Kd.S_ne HO456.out BK433.out (by decide)) e_) e_)))
     replace BK440 := am (blk_kept (zk BK440) hkp (fun hs_ => Or.elim hs_ (fun e_ => (fun e_ => (Kd.R_ne HO453.out BK440.out (by decide)) e_) e_) (fun e_ => (fun e_ => (Kd.S_ne HO456.out BK440.out (by decide)) e_) e_)))
     replace HI0 := am (IsS93.kept (zi HI0) hkp (fun hs_ => Or.elim hs_ (fun e_ => (fun e_ => (IsS93.own_ne HI0.out HO453.out (by decide)) e_) e_) (fun e_ => (fun e_ => (IsS93.own_neS HI0.out HO456.out (by decide)) e_) e_)))
     replace BK450 := am (blk_kept (zk BK450) hkp (fun hs_ => Or.elim hs_ (fun e_ => (fun e_ => (Kd.R_ne HO453.out BK450.out (by decide)) e_) e_) (fun e_ => (fun e_ => (Kd.S_ne HO456.out BK450.out (by decide)) e_) e_)))
     replace BK464 := am (blk_kept (zk BK464) hkp (fun hs_ => Or.elim hs_ (fun e_ => (fun e_ => (Kd.R_ne HO453.out BK464.out (by decide)) e_) e_) (fun e_ => (fun e_ => (Kd.S_ne HO456.out BK464.out (by decide)) e_) e_)))
     have HO459 := am (ho0)
     have HO462 := am (ho1)
     replace HK := am (Kept.keepG (zh HK) hkp (fun k_ hs_ => Or.elim hs_ (fun e_ => (fun e_ => .inr (Kd.R_base HO453.out k_ e_.symm)) e_) (fun e_ => (fun e_ => .inr (Kd.S_base HO456.out k_ e_.symm)) e_)))
     replace HB := am (hb)
     clear HO453 HO456
     (try clear hb)
     (try clear hkp)
     (try clear ho0)
     (try clear ho1)
     refine hK.out _ _ ⟨ce0 BK440, ce1 BK440, ce0 BK450, ce1 BK450, ce2 BK450, ce3 BK450, ce4 BK450⟩ (fun hHeld => ?_)
     clear hK K
     refine norm_ (a' := ?_) ?_ ?_
     rotate_left
     · show Act.put _ (some 26) _ = _
       simp only [Act.put, List.setIfInBounds_toArray, List.set_cons_zero, List.set_cons_succ, i64_w, i32_w]
       rfl
     refine pu 4 22 10 159 rfl rfl ?_
     refine pu 5 27 10 191 rfl rfl ?_
     refine pu 6 28 10 255 rfl rfl ?_
     exact norm_ (by simp only [putAll, Act.put, List.setIfInBounds_toArray, List.set_cons_zero, List.set_cons_succ]) (hCont (.slice Ao96 t451.length co96, .slice Ao97 t454.length co97, v458, v461, gb464) _ ⟨hHeld, (zr HO459), (zs HO462), (zr HO_441000), (zs HO_441001), (zr HO_7), (zk BK433), (zk BK440), (zk BK450), (zk BK464), GW464.out, GE464.out, NB0_464.out, NB464_0.out, NB433_464.out, NB464_433.out, NB440_464.out, NB464_440.out, NB450_464.out, NB464_450.out, (zi HI0), (zh HK), (zb HB)⟩)
   rintro ⟨v452, v455, v458, v461, gb464⟩ w99 ⟨hS_, h0_, h1_, h2_, h3_, h4_, h5_, h6_, h7_, h8_, h9_, h10_, h11_, h12_, h13_, h14_, h15_, h16_, h17_, h18_, h19_, h20_, h21_⟩
   have HO459 : Aside0 (Kd.R k55 55 w99 w.heap.size (fun _ => True) v458 t457) := ⟨h0_⟩
   have HO462 : Aside0 (Kd.S k38 38 w99 w.heap.size (fun _ => True) v461 t460) := ⟨h1_⟩
   replace HO_441000 : Aside0 (Kd.R k55 55 w99 w.heap.size (fun _ => True) (.slice Ao84 x441000_1.length co84) x441000_1) := ⟨h2_⟩
   replace HO_441001 : Aside0 (Kd.S k38 38 w99 w.heap.size (fun _ => True) (.slice Ao85 x441001_1.length co85) x441001_1) := ⟨h3_⟩
   replace HO_7 : Aside0 (Kd.R k103 103 w99 w.heap.size (fun k_ => k_ ≠ gb450) u7 x7_1) := ⟨h4_⟩
   replace BK433 : Aside0 (w99.heap[gb433]? = some (.cells #[.slice none 0 0, .slice none 0 0] 31 (0, 0))) := ⟨h5_⟩
   replace BK440 : Aside0 (w99.heap[gb440]? = some (.cells #[.slice Ao84 x441000_1.length co84, .slice Ao85 x441001_1.length co85] 31 (0, 0))) := ⟨h6_⟩
   replace BK450 : Aside0 (w99.heap[gb450]? = some (.cells #[.int .i64 t444, .string t445, .string t446, .int .i64 t447, .string t448] 103 (0, 0))) := ⟨h7_⟩
   have BK464 : Aside0 (w99.heap[gb464]? = some (.cells #[.slice none 0 0, .slice none 0 0] 31 (0, 0))) := ⟨h8_⟩
   have GW464 : Aside0 (w.heap.size ≤ gb464) := ⟨h9_⟩
   have GE464 : Aside0 (w0.heap.size ≤ gb464) := ⟨h10_⟩
   have NB0_464 : Aside0 (g ≠ gb464) := ⟨h11_⟩
   have NB464_0 : Aside0 (gb464 ≠ g) := ⟨h12_⟩
   have NB433_464 : Aside0 (gb433 ≠ gb464) := ⟨h13_⟩
   have NB464_433 : Aside0 (gb464 ≠ gb433) := ⟨h14_⟩
   have NB440_464 : Aside0 (gb440 ≠ gb464) := ⟨h15_⟩
   have NB464_440 : Aside0 (gb464 ≠ gb440) := ⟨h16_⟩
   have NB450_464 : Aside0 (gb450 ≠ gb464) := ⟨h17_⟩
   have NB464_450 : Aside0 (gb464 ≠ gb450) := ⟨h18_⟩
   replace HI0 : Aside0 (IsS93 w0 w99 g s0_0 t449) := ⟨h19_⟩
   replace HK : Aside0 (KeepBut w w99 g none) := ⟨h20_⟩
   replace HB : Aside0 (Below w0.heap.size w0 w99) := ⟨h21_⟩
   clear h0_ h1_ h2_ h3_ h4_ h5_ h6_ h7_ h8_ h9_ h10_ h11_ h12_ h13_ h14_ h15_ h16_ h17_ h18_ h19_ h20_ h21_
   have hHeld : w99.cell? ⟨gb440, 0, none⟩ = some (.slice Ao84 x441000_1.length co84) ∧ w99.cell? ⟨gb440, 1, none⟩ = some (.slice Ao85 x441001_1.length co85) ∧ w99.cell? ⟨gb450, 0, none⟩ = some (.int .i64 t444) ∧ w99.cell? ⟨gb450, 1, none⟩ = some (.string t445) ∧ w99.cell? ⟨gb450, 2, none⟩ = some (.string t446) ∧ w99.cell? ⟨gb450, 3, none⟩ = some (.int .i64 t447) ∧ w99.cell? ⟨gb450, 4, none⟩ = some (.string t448) := hS_
   obtain ⟨Ao100, co100, eo100⟩ := Kd.R_slice HO459.out
   (first | subst eo100 | (injection eo100 with f1_ f2_ f3_; have f4_ := f1_.symm; have f5_ := f3_.symm; clear f1_ f2_ f3_; subst f4_; subst f5_))
   obtain ⟨Ao102, co102, eo102⟩ := Kd.S_slice HO462.out
   (first | subst eo102 | (injection eo102 with f1_ f2_ f3_; have f4_ := f1_.symm; have f5_ := f3_.symm; clear f1_ f2_ f3_; subst f4_; subst f5_))
   refine norm_ (a' := ?_) ?_ ?_
   rotate_left
   · simp only [putAll, Act.put, List.setIfInBounds_toArray, List.set_cons_zero, List.set_cons_succ]
     rfl
   refine oz 8 10 511 rfl rfl (fun K hK => ?_)
   have hs101 := ce0 BK464
   have hfs101 := bfz BK464 0
   have hns101_0 := NB433_464.out
   have hns101_1 := NB440_464.out
   have hns101_2 := NB450_464.out
   have hms101_0 := NB464_433.out
   have hms101_1 := NB464_440.out
   have hms101_2 := NB464_450.out
   have hs103 := ce1 BK464
   have hfs103 := bfz BK464 1
   have hns103_0 := NB433_464.out
   have hns103_1 := NB440_464.out
   have hns103_2 := NB450_464.out
   have hms103_0 := NB464_433.out
   have hms103_1 := NB464_440.out
   have hms103_2 := NB464_450.out
   refine skip_ (w1 := ?_) (by rfl) rfl ?_ ?_
   rotate_left
   · go_simp
     rfl
   refine hK.out _ _ ⟨((cell_far (p := ⟨gb464, _, none⟩) NB440_464.out _).trans (((cell_far (p := ⟨gb464, _, none⟩) NB440_464.out _).trans (hHeld.1)))), ((cell_far (p := ⟨gb464, _, none⟩) NB440_464.out _).trans (((cell_far (p := ⟨gb464, _, none⟩) NB440_464.out _).trans (hHeld.2.1)))), ((cell_far (p := ⟨gb464, _, none⟩) NB450_464.out _).trans (((cell_far (p := ⟨gb464, _, none⟩) NB450_464.out _).trans (hHeld.2.2.1)))), ((cell_far (p := ⟨gb464, _, none⟩) NB450_464.out _).trans (((cell_far (p := ⟨gb464, _, none⟩) NB450_464.out _).trans (hHeld.2.2.2.1)))), ((cell_far (p := ⟨gb464, _, none⟩) NB450_464.out _).trans (((cell_far (p := ⟨gb464, _, none⟩) NB450_464.out _).trans (hHeld.2.2.2.2.1)))), ((cell_far (p := ⟨gb464, _, none⟩) NB450_464.out _).trans (((cell_far (p := ⟨gb464, _, none⟩) NB450_464.out _).trans (hHeld.2.2.2.2.2.1)))), ((cell_far (p := ⟨gb464, _, none⟩) NB450_464.out _).trans (((cell_far (p := ⟨gb464, _, none⟩) NB450_464.out _).trans (hHeld.2.2.2.2.2.2))))⟩ (fun hHeld => ?_)
   clear hK K
   refine pu 9 11 10 1023 rfl rfl ?_
   refine done_ (done_of HT_.out (by kernel_rfl)) ?_
   have hnb104 := NB450_464.out
   have hnc104 := NB464_450.out
   have hcz105_0 := ce0 BK450
   have hcz105_1 := ce1 BK450
   have hcz105_2 := ce2 BK450
   have hcz105_3 := ce3 BK450
   have hcz105_4 := ce4 BK450
   have hfz105_0 := bfz BK450 0
   have hfz105_1 := bfz BK450 1
   have hfz105_2 := bfz BK450 2
   have hfz105_3 := bfz BK450 3
   have hfz105_4 := bfz BK450 4
   have H := HH_.out
   clear HH_
   by_cases c19 : t465 = true
   rotate_left
   · replace c19 := Bool.eq_false_iff.mpr c19
     subst c19
     have H1 : (spec_l71Ops.l0 k1 a1 x7_1 (wrap64 (x8_1 + 1)) s0_0 t449 x441000_1 x441001_1) = some (r1, r2, r3, r4) := by rw [if_neg (show ¬ (false = true) by decide)] at H; exact H
     clear H
     have H := H1
     clear H1
     have H' := am H
     clear H
     try go_wp2_with (first | ((with_reducible refine gate_callee (f := 83) rfl ?_); refine gl Try.func83 30 #[.agg #[.int .i64 t444, .string t445, .string t446, .int .i64 t447, .string t448]] rfl rfl rfl ?_; (with_reducible refine (spec_OpOk.calls k1 t444 t445 t446 t447 t448 false _ A18.out).mono ?_); rintro e w106 ⟨rfl, hb⟩; refine ⟨_, rfl, ?_⟩; replace HO_7 := am (Kd.R_below (rf HO_7 BK464) hb); replace HO_441000 := am (Kd.R_below (rf HO_441000 BK464) hb); replace HO_441001 := am (Kd.S_below (sf HO_441001 BK464) hb); replace HO459 := am (Kd.R_below (rf HO459 BK464) hb); replace HO462 := am (Kd.S_below (sf HO462 BK464) hb); replace BK433 := am (blk_below (zk BK433) hb); replace BK440 := am (blk_below (zk BK440) hb); replace HI0 := am (IsS93.below (zi HI0) hb); replace BK450 := am (blk_below (zk BK450) hb); replace BK464 := am (blk_below (g := gb464) (o := .cells #[.slice Ao100 t457.length co100, .slice Ao102 t460.length co102] 31 (0, 0)) (zp BK464) hb); replace HK := am (KeepBut.trans (zh HK) (KeepBut.of_below hb g none) (.inl rfl)); replace HB := am (below_step (zb HB) hb); (try clear hb); (try clear hb2); (try clear hk); (try clear hi)))
     go_roundg k1
     case measure => have := HK1.out; omega
     case rel => exact ⟨(x7_1), (wrap64 (x8_1 + 1)), (t449), (x441000_1), (x441001_1), (.slice Ao84 x441000_1.length co84), (.slice Ao85 x441001_1.length co85), ze, H', ⟨by have := HK1.out; omega⟩, ⟨by (with_reducible repeat (first | apply Kd.R_alloc | apply Kd.R_drewN | apply Kd.R_drew)); exact Kd.R_mono HO_7.out (fun _ hk => trivial)⟩, ⟨zr HO_441000⟩, ⟨zs HO_441001⟩, ⟨zk BK433⟩, ⟨zk BK440⟩, ⟨zi HI0⟩, ⟨zh HK⟩, ⟨zb HB⟩⟩
   subst c19
   have H1 : (if t463 = true then (if x7_1.length < 2199023255552 then (spec_l71Ops.l0 k1 a1 (x7_1 ++ [(⟨t444, t445, t446, t447, t448⟩ : S103)]) (wrap64 (x8_1 + 1)) s0_0 t449 t457 t460) else (none)) else (spec_l71Ops.l0 k1 a1 x7_1 (wrap64 (x8_1 + 1)) s0_0 t449 x441000_1 x441001_1)) = some (r1, r2, r3, r4) := by rw [if_pos rfl] at H; exact H
   clear H
   have H := H1
   clear H1
   by_cases c20 : t463 = true
   rotate_left
   · replace c20 := Bool.eq_false_iff.mpr c20
     subst c20
     have H1 : (spec_l71Ops.l0 k1 a1 x7_1 (wrap64 (x8_1 + 1)) s0_0 t449 x441000_1 x441001_1) = some (r1, r2, r3, r4) := by rw [if_neg (show ¬ (false = true) by decide)] at H; exact H
     clear H
     have H := H1
     clear H1
     have H' := am H
     clear H
     try go_wp2_with (first | ((with_reducible refine gate_callee (f := 83) rfl ?_); refine gl Try.func83 30 #[.agg #[.int .i64 t444, .string t445, .string t446, .int .i64 t447, .string t448]] rfl rfl rfl ?_; (with_reducible refine (spec_OpOk.calls k1 t444 t445 t446 t447 t448 true _ A18.out).mono ?_); rintro e w80 ⟨rfl, hb⟩; refine ⟨_, rfl, ?_⟩; replace HO_7 := am (Kd.R_below (rf HO_7 BK464) hb); replace HO_441000 := am (Kd.R_below (rf HO_441000 BK464) hb); replace HO_441001 := am (Kd.S_below (sf HO_441001 BK464) hb); replace HO459 := am (Kd.R_below (rf HO459 BK464) hb); replace HO462 := am (Kd.S_below (sf HO462 BK464) hb); replace BK433 := am (blk_below (zk BK433) hb); replace BK440 := am (blk_below (zk BK440) hb); replace HI0 := am (IsS93.below (zi HI0) hb); replace BK450 := am (blk_below (zk BK450) hb); replace BK464 := am (blk_below (g := gb464) (o := .cells #[.slice Ao100 t457.length co100, .slice Ao102 t460.length co102] 31 (0, 0)) (zp BK464) hb); replace HK := am (KeepBut.trans (zh HK) (KeepBut.of_below hb g none) (.inl rfl)); replace HB := am (below_step (zb HB) hb); (try clear hb); (try clear hb2); (try clear hk); (try clear hi)))
     go_roundg k1
     case measure => have := HK1.out; omega
     case rel => exact ⟨(x7_1), (wrap64 (x8_1 + 1)), (t449), (x441000_1), (x441001_1), (.slice Ao84 x441000_1.length co84), (.slice Ao85 x441001_1.length co85), ze, H', ⟨by have := HK1.out; omega⟩, ⟨by (with_reducible repeat (first | apply Kd.R_alloc | apply Kd.R_drewN | apply Kd.R_drew)); exact Kd.R_mono HO_7.out (fun _ hk => trivial)⟩, ⟨zr HO_441000⟩, ⟨zs HO_441001⟩, ⟨zk BK433⟩, ⟨zk BK440⟩, ⟨zi HI0⟩, ⟨zh HK⟩, ⟨zb HB⟩⟩
   subst c20
   have H1 : (if x7_1.length < 2199023255552 then (spec_l71Ops.l0 k1 a1 (x7_1 ++ [(⟨t444, t445, t446, t447, t448⟩ : S103)]) (wrap64 (x8_1 + 1)) s0_0 t449 t457 t460) else (none)) = some (r1, r2, r3, r4) := by rw [if_pos rfl] at H; exact H
   clear H
   have H := H1
   clear H1
   by_cases c21 : x7_1.length < 2199023255552
   rotate_left
   · rw [if_neg c21] at H
     exact absurd H (by simp)
   rw [if_pos c21] at H
   have LMc21 := am c21
   clear c21
   obtain ⟨y466, hy466⟩ : ∃ y_ : List (S103), y_ = (x7_1 ++ [(⟨t444, t445, t446, t447, t448⟩ : S103)]) := ⟨_, rfl⟩
   replace H : (spec_l71Ops.l0 k1 a1 y466 (wrap64 (x8_1 + 1)) s0_0 t449 t457 t460) = some (r1, r2, r3, r4) := hY hy466 H
   have Ny466 := am hy466
   clear hy466
   have H' := am H
   clear H
   try go_wp2_with (first | ((with_reducible refine gate_callee (f := 83) rfl ?_); refine gl Try.func83 30 #[.agg #[.int .i64 t444, .string t445, .string t446, .int .i64 t447, .string t448]] rfl rfl rfl ?_; (with_reducible refine (spec_OpOk.calls k1 t444 t445 t446 t447 t448 true _ A18.out).mono ?_); rintro e w47 ⟨rfl, hb⟩; refine ⟨_, rfl, ?_⟩; replace HO_7 := am (Kd.R_below (rf HO_7 BK464) hb); replace HO_441000 := am (Kd.R_below (rf HO_441000 BK464) hb); replace HO_441001 := am (Kd.S_below (sf HO_441001 BK464) hb); replace HO459 := am (Kd.R_below (rf HO459 BK464) hb); replace HO462 := am (Kd.S_below (sf HO462 BK464) hb); replace BK433 := am (blk_below (zk BK433) hb); replace BK440 := am (blk_below (zk BK440) hb); replace HI0 := am (IsS93.below (zi HI0) hb); replace BK450 := am (blk_below (zk BK450) hb); replace BK464 := am (blk_below (g := gb464) (o := .cells #[.slice Ao100 t457.length co100, .slice Ao102 t460.length co102] 31 (0, 0)) (zp BK464) hb); replace HK := am (KeepBut.trans (zh HK) (KeepBut.of_below hb g none) (.inl rfl)); replace HB := am (below_step (zb HB) hb); (try clear hb); (try clear hb2); (try clear hk); (try clear hi); have hnb48 := NB464_433.out; have hnc48 := NB433_464.out; have hnb49 := NB464_440.out; have hnc49 := NB440_464.out; have hnb50 := NB464_0.out; have hnc50 := NB0_464.out; have hcz51_0 := ce0 BK464; have hcz51_1 := ce1 BK464; have hfz51_0 := bfz BK464 0; have hfz51_1 := bfz BK464 1; have hcz52_0 := ce0 BK440; have hcz52_1 := ce1 BK440; have hfz52_0 := bfz BK440 0; have hfz52_1 := bfz BK440 1; have hcz53_0 := ce0 BK450; have hcz53_1 := ce1 BK450; have hcz53_2 := ce2 BK450; have hcz53_3 := ce3 BK450; have hcz53_4 := ce4 BK450; have hfz53_0 := bfz BK450 0; have hfz53_1 := bfz BK450 1; have hfz53_2 := bfz BK450 2; have hfz53_3 := bfz BK450 3; have hfz53_4 := bfz BK450 4) | ((with_reducible refine gate_builtin (b := .append) (xs := #[.tmp 35, .tmp 37]) rfl ?_); at_builtin; refine Kd.R_append k103 w.heap.size rfl (.tmp 35) (.tmp 37) 94 103 (.agg #[(.int .i64 0), (.string ⟨#[]⟩), (.string ⟨#[]⟩), (.int .i64 0), (.string ⟨#[]⟩)]) 64 rfl Try.underlying94 info103 rfl (by decide) (by omega) u7 x7_1 (⟨t444, t445, t446, t447, t448⟩ : S103) [.int .i64 t444, .string t445, .string t446, .int .i64 t447, .string t448] (fun k_ => k_ ≠ gb450) (fun _ => False) rfl (by first | (go_simp; done) | (go_simp; rfl)) ?aP (fun _ hk => hk.elim) ?aF ?aO (Below.refl _ _) ?aS ?aL ?_; (case aP => exact k103_mkM _ _ _ (⟨t444, t445, t446, t447, t448⟩ : S103)); (case aF => exact (fun k_ hk => Kd.freshB (g := gb450) (o := .cells #[.int .i64 t444, .string t445, .string t446, .int .i64 t447, .string t448] 103 (0, 0)) (zk BK450) k_ hk)); (case aO => exact (rf HO_7 BK440)); (case aS => exact (keep_size (zh HK))); (case aL => have := LMc21.out; omega); intro v467 w54 ho hb hg hat; rw [← Ny466.out] at ho; replace HO_441000 := am (Kd.R_over' (rf HO_441000 BK440) (Kd.R_typed (rf HO_7 BK440)) (by decide) hg); replace HO_441001 := am (Kd.S_over' (sf HO_441001 BK440) (Kd.R_typed (rf HO_7 BK440)) (by decide) hg); replace BK433 := am (blk_grown (zk BK433) hg (Kd.R_ne HO_7.out BK433.out (by decide))); replace HI0 := am (IsS93.grown (zi HI0) hg (IsS93.own_ne HI0.out HO_7.out (by decide))); replace BK450 := am (blk_grown (zk BK450) hg (Kd.R_away HO_7.out (fun _ hk => hk))); replace HO459 := am (Kd.R_over' (rf HO459 BK440) (Kd.R_typed (rf HO_7 BK440)) (by decide) hg); replace HO462 := am (Kd.S_over' (sf HO462 BK440) (Kd.R_typed (rf HO_7 BK440)) (by decide) hg); replace BK440 := am (blk_grown (g := gb440) (o := .cells #[.slice Ao100 t457.length co100, .slice Ao102 t460.length co102] 31 (0, 0)) (zp BK440) hg (Kd.R_ne HO_7.out BK440.out (by decide))); replace BK464 := am (blk_grown (zk BK464) hg (Kd.R_ne HO_7.out BK464.out (by decide))); replace HB := am (below_weaken (zb HB) HL.out hb); replace HK := am (KeepBut.trans (zh HK) (KeepBut.of_grown hg g) (Kd.R_base2 HO_7.out)); have HO468 := am (ho); clear HO_7; clear ho hb hg hat))
   go_roundg k1
   case measure => have := HK1.out; omega
   case rel => exact ⟨(y466), (wrap64 (x8_1 + 1)), (t449), (t457), (t460), (.slice Ao100 t457.length co100), (.slice Ao102 t460.length co102), ze, H', ⟨by have := HK1.out; omega⟩, ⟨by (with_reducible repeat (first | apply Kd.R_alloc | apply Kd.R_drewN | apply Kd.R_drew)); exact Kd.R_mono HO468.out (fun _ hk => trivial)⟩, ⟨zr HO459⟩, ⟨zs HO462⟩, ⟨zk BK433⟩, ⟨zk BK440⟩, ⟨zi HI0⟩, ⟨zh HK⟩, ⟨zb HB⟩⟩
end Go.Proofs.Ytooamacekmjpaaa.PFnReadOnly
