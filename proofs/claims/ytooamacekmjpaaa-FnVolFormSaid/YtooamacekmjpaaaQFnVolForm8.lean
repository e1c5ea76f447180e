/- The walk: each function that the law comes to as a plain Lean function, and a proof that the Go code answers so. Written by this session's program over the kit's printer. -/
import Derived.Test.YtooamacekmjpaaaZ
import Derived.Test.YtooamacekmjpaaaQFnVolForm0
import Derived.Test.YtooamacekmjpaaaQFnVolForm1
import Derived.Test.YtooamacekmjpaaaQFnVolForm2
import Derived.Test.YtooamacekmjpaaaQFnVolForm5
import Derived.Test.YtooamacekmjpaaaQFnVolForm7
namespace Go.Proofs.Ytooamacekmjpaaa.PFnVolForm
open Go.RowKit Go.Proofs.YtooamacekmjpaaaW.PrintWords Go.Proofs.YtooamacekmjpaaaW.PrintLast Go.Proofs.YtooamacekmjpaaaW.PrintMore
attribute [local go_sem] max2_int min2_int max_two min_two max_three min_three max_four min_four   -- for this text's walks alone
set_option linter.unusedVariables false
set_option linter.unusedSimpArgs false
/-! ### spec_l71Ops: function 73 -/
def spec_l71Ops.l0 : Nat → Int → List (S103) → Int → List Int → Int → List (S55) → List (S38) → Option ((List (S103)) × (List (S55)) × (List (S38)) × Int)
 | 0, _, _, _, _, _, _, _ => none
 | k + 1, x1, x7, x8, x1000, x1001, x378000, x378001 => if x8 < x1 then ((spec_l71Fits.f k x1000 x1001 x378000 x378001).bind fun bt381 => ((spec_l11Copy.f k x378000 x378001).bind fun bt388 => ((spec_l12Do.f k bt388.1 bt388.2 bt381.1 bt381.2.1 bt381.2.2.1 bt381.2.2.2.1 bt381.2.2.2.2.1).bind fun bt394 => ((spec_OpOk.f k bt381.1 bt381.2.1 bt381.2.2.1 bt381.2.2.2.1 bt381.2.2.2.2.1).bind fun t402 => (if t402 = true then (if bt394.2.2 = true then (if x7.length < 2199023255552 then (spec_l71Ops.l0 k x1 (x7 ++ [(⟨bt381.1, bt381.2.1, bt381.2.2.1, bt381.2.2.2.1, bt381.2.2.2.2.1⟩ : S103)]) (wrap64 (x8 + 1)) x1000 bt381.2.2.2.2.2 bt394.1 bt394.2.1) else (none)) else (spec_l71Ops.l0 k x1 x7 (wrap64 (x8 + 1)) x1000 bt381.2.2.2.2.2 x378000 x378001)) else (spec_l71Ops.l0 k x1 x7 (wrap64 (x8 + 1)) x1000 bt381.2.2.2.2.2 x378000 x378001)))))) else (some (x7, x378000, x378001, x1001))
def spec_l71Ops.f (k : Nat) (s0_0 : List Int) (s0_1 : Int) (a1 : Int) : Option ((List (S103)) × (List (S55)) × (List (S38)) × Int) := (spec_PoolNew.f).bind fun bt371 => (spec_l71Ops.l0 k a1 (([] : List (S103))) 0 s0_0 s0_1 bt371.1 bt371.2)
theorem spec_l71Ops.mono_l : ∀ k, (∀ y0 y1 y2 y3 y4 y5 y6, LeO (spec_l71Ops.l0 k y0 y1 y2 y3 y4 y5 y6) (spec_l71Ops.l0 (k + 1) y0 y1 y2 y3 y4 y5 y6))
 | 0 => fun _ _ _ _ _ _ _ r h => by simp [spec_l71Ops.l0] at h
 | k + 1 => by
  have ih0 := spec_l71Ops.mono_l k
  intro y0 y1 y2 y3 y4 y5 y6
  unfold spec_l71Ops.l0
  exact mo5 ih0 @spec_OpOk.mono @spec_l11Copy.mono @spec_l12Do.mono @spec_l71Fits.mono
theorem spec_l71Ops.mono : ∀ a0 a1 a2 k, LeO (spec_l71Ops.f k a0 a1 a2) (spec_l71Ops.f (k + 1) a0 a1 a2) := by
 intro a0 a1 a2 k
 have ih0 := spec_l71Ops.mono_l k
 unfold spec_l71Ops.f
 exact mo5 ih0 @spec_OpOk.mono @spec_l11Copy.mono @spec_l12Do.mono @spec_l71Fits.mono
def spec_l71Ops.T7 : Bool × List (List Nat × List Nat) := (true, [([], []), ([0], [0]), ([], []), ([1, 2, 1], [1, 2]), ([3], [3]), ([4], [4]), ([4], [4]), ([], []), ([7, 5, 3, 0, 1, 2, 3, 4, 5, 7], [5, 7]), ([6, 8, 0, 1, 2, 3, 4, 5, 6, 7, 8], [6])])
def spec_l71Ops.B7 : List Nat := [0, 1, 0, 7, 15, 31, 31, 0, 191, 511]
theorem spec_l71Ops.tab7 : rtab .any (opsOf Try.f73 7) = spec_l71Ops.T7 := by kernel_rfl
theorem spec_l71Ops.bits7 : waitsOk spec_l71Ops.T7.2 spec_l71Ops.B7 = true := by kernel_rfl
set_option maxHeartbeats 8000000 in
set_option maxRecDepth 100000 in
theorem spec_l71Ops.calls (k : Nat) (g : Nat) (s0_0 : List Int) (s0_1 : Int) (a1 : Int) (r1 : List (S103)) (r2 : List (S55)) (r3 : List (S38)) (r4 : Int) (w0 w : World) (hI : IsS93 w0 w g s0_0 s0_1) (hB : Below w0.heap.size w0 w) (h : spec_l71Ops.f k s0_0 s0_1 a1 = some (r1, r2, r3, r4)) :
 Calls Try.prog 73 #[.pointer (some ⟨g, 0, none⟩), .int .i64 a1] w fun e w' => ∃ v0_ v1_ v2_ : Value, e = .returned (.tuple #[v0_, .agg #[v1_, v2_]]) ∧ Kd.R k103 103 w' w.heap.size (fun _ => True) v0_ r1 ∧ Kd.R k55 55 w' w.heap.size (fun _ => True) v1_ r2 ∧ Kd.S k38 38 w' w.heap.size (fun _ => True) v2_ r3 ∧ IsS93 w0 w' g s0_0 r4 ∧ Below w0.heap.size w0 w' ∧ KeepBut w w' g none := by
 have hu31 := Try.underlying31
 have hu103 := Try.underlying103
 have HI0 := am hI
 have HK := am (KeepBut.refl w g none)
 have HL := am hB.size
 clear hI
 have HW0 := am hB.size
 have HB := am hB
 clear hB
 have H : ((spec_PoolNew.f).bind fun bt371 => (spec_l71Ops.l0 k a1 (([] : List (S103))) 0 s0_0 s0_1 bt371.1 bt371.2)) = some (r1, r2, r3, r4) := h
 clear h
 replace H := obs H
 obtain ⟨⟨t371, t374⟩, A30, H⟩ := H
 replace H : (spec_l71Ops.l0 k a1 (([] : List (S103))) 0 s0_0 s0_1 t371 t374) = some (r1, r2, r3, r4) := H
 have A3 := am A30
 clear A30
 obtain ⟨y378, hy378⟩ : ∃ y_ : List (S103), y_ = (([] : List (S103))) := ⟨_, rfl⟩
 replace H : (spec_l71Ops.l0 k a1 y378 0 s0_0 s0_1 t371 t374) = some (r1, r2, r3, r4) := hY hy378 H
 have Ny378 := am hy378
 clear hy378
 have H' := am H
 clear H
 go_enter Try.func73, Try.ntmps73
 go_wp2_with (first | ((with_reducible refine gate_dst (N := 5) rfl ?_); refine bx 31 #[.slice none 0 0, .slice none 0 0] ?_; intro gb370 hg w4 hbox hb; replace HB := am (below_step (zb HB) hb); have BK370 := am (hbox); have GW370 := am (zm hg (zh HK)); have GE370 := am ((Nat.le_trans HW0.out (zm hg (zh HK)))); replace HK := am (KeepBut.trans (zh HK) (KeepBut.of_below hb g none) (.inl rfl)); have NB0_370 := am (ix hg (zi HI0)); have NB370_0 := am (iy hg (zi HI0)); replace HI0 := am (IsS93.below (zi HI0) hb); clear hb hbox hg) | ((with_reducible refine gate_callee (f := 79) rfl ?_); refine gl Try.func79 12 #[] rfl rfl rfl ?_; (with_reducible refine (spec_PoolNew.calls  t371 t374 _ A3.out).mono ?_); rintro e w5 ⟨v372, v375, rfl, ho0, ho1, hb⟩; refine ⟨_, rfl, ?_⟩; have HO373 := am (Kd.R_lower ho0 (keep_size (zh HK))); have HO376 := am (Kd.S_lower ho1 (keep_size (zh HK))); replace HI0 := am (IsS93.below (zi HI0) hb); replace BK370 := am (blk_below (zk BK370) hb); replace HK := am (KeepBut.trans (zh HK) (KeepBut.of_below hb g none) (.inl rfl)); replace HB := am (below_step (zb HB) hb); (try clear hb); (try clear hb2); (try clear hk); (try clear hi); (try clear ho0); (try clear ho1)) | ((with_reducible refine gate_dst (N := 6) rfl ?_); refine bx 31 #[.slice none 0 0, .slice none 0 0] ?_; intro gb377 hg w6 hbox hb; replace HO373 := am (Kd.R_below (zr HO373) hb); replace HO376 := am (Kd.S_below (zs HO376) hb); replace HB := am (below_step (zb HB) hb); have BK377 := am (hbox); have GW377 := am (zm hg (zh HK)); have GE377 := am ((Nat.le_trans HW0.out (zm hg (zh HK)))); replace HK := am (KeepBut.trans (zh HK) (KeepBut.of_below hb g none) (.inl rfl)); have NB370_377 := am (zx hg (zk BK370)); have NB377_370 := am (zy hg (zk BK370)); replace BK370 := am (blk_below (zk BK370) hb); have NB0_377 := am (ix hg (zi HI0)); have NB377_0 := am (iy hg (zi HI0)); replace HI0 := am (IsS93.below (zi HI0) hb); clear hb hbox hg; obtain ⟨Ao7, co7, eo7⟩ := Kd.R_slice HO373.out; subst eo7; have hnb8 := NB377_370.out; have hnc8 := NB370_377.out; have hnb9 := NB377_0.out; have hnc9 := NB0_377.out; have hcz10_0 := ce0 BK377; have hcz10_1 := ce1 BK377; have hfz10_0 := bfz BK377 0; have hfz10_1 := bfz BK377 1; obtain ⟨Ao11, co11, eo11⟩ := Kd.S_slice HO376.out; subst eo11) | ((with_reducible refine gate_dst (N := 13) rfl ?_); refine Kd.R_lit k103 _ 103 ?hg (N := 13) ?hd (xs := ([] : List (S103))) (inner := []) (ok := fun _ => True) (okp := fun _ => True) ?hr ?hp (fun _ hk => hk) trivial (Below.refl _ _) (Nat.le_refl _) (by simp) ?_; (case hd => rfl); (case hg => rfl); (case hr => first | (go_simp; done) | (go_simp; rfl)); (case hp => exact (Reps.none _ _)); intro v379 w12 ho13 hb hg_ hnew_; clear hg_ hnew_; (first | rw [← Ny378.out] at ho13 | (simp only [Int.reduceToNat] at ho13; rw [← Ny378.out] at ho13)); replace HO373 := am (Kd.R_below (rf HO373 BK377) hb); replace HO376 := am (Kd.S_below (sf HO376 BK377) hb); have HO380 := am (Kd.R_lower ho13 (keep_size (zh HK))); replace HI0 := am (IsS93.below (zi HI0) hb); replace BK370 := am (blk_below (zk BK370) hb); replace BK377 := am (blk_below (g := gb377) (o := .cells #[.slice Ao7 t371.length co7, .slice Ao11 t374.length co11] 31 (0, 0)) (zp BK377) hb); replace HK := am (KeepBut.trans (zh HK) (KeepBut.of_below hb g none) (.inl rfl)); replace HB := am (below_step (zb HB) hb); clear hb ho13))
 go_loopg [7, 8] k (fun kq v7 v8 w' => ∃ (x7_1 : List (S103)) (x8_1 : Int) (x1001_1 : Int) (x378000_1 : List (S55)) (x378001_1 : List (S38)) (u378000 : Value) (u378001 : Value), v8 = .int .i64 x8_1 ∧ Aside0 (spec_l71Ops.l0 kq a1 x7_1 x8_1 s0_0 x1001_1 x378000_1 x378001_1 = some (r1, r2, r3, r4)) ∧ Aside0 (kq ≤ k) ∧ Aside0 (Kd.R k103 103 w' w.heap.size (fun _ => True) v7 x7_1) ∧ Aside0 (Kd.R k55 55 w' w.heap.size (fun _ => True) u378000 x378000_1) ∧ Aside0 (Kd.S k38 38 w' w.heap.size (fun _ => True) u378001 x378001_1) ∧ Aside0 (w'.heap[gb370]? = some (.cells #[(.slice none 0 0), (.slice none 0 0)] 31 (0, 0))) ∧ Aside0 (w'.heap[gb377]? = some (.cells #[u378000, u378001] 31 (0, 0))) ∧ Aside0 (IsS93 w0 w' g s0_0 x1001_1) ∧ Aside0 (KeepBut w w' g none) ∧ Aside0 (Below w0.heap.size w0 w'))
 case atStart => exact ⟨(y378), (0), (s0_1), (t371), (t374), (.slice Ao7 t371.length co7), (.slice Ao11 t374.length co11), ze, H', ⟨Nat.le_refl _⟩, ⟨zr HO380⟩, ⟨zr HO373⟩, ⟨zs HO376⟩, ⟨zk BK370⟩, ⟨zk BK377⟩, ⟨zi HI0⟩, ⟨zh HK⟩, ⟨zb HB⟩⟩
 case round =>
  clear H'
  try clear p2
  try clear c7
  try clear c8
  try clear c9
  try clear hcz10_0
  try clear hcz10_1
  try clear hfz10_0
  try clear hfz10_1
  obtain ⟨x7_1, x8_1, x1001_1, x378000_1, x378001_1, u378000, u378001, rfl, HA, HK1, HO_7, HO_378000, HO_378001, BK370, BK377, HI0, HK, HB⟩ := hrel
  cases gk with
  | zero => exact absurd HA.out (by simp [spec_l71Ops.l0])
  | succ k1 =>
   have H := HA.out
   clear HA
   simp only [spec_l71Ops.l0] at H
   by_cases c14 : x8_1 < a1
   rotate_left
   · rw [if_neg c14] at H
     have c14b0 : decide (x8_1 < a1) = false := decide_eq_false c14
     clear c14
     simp only [Option.some.injEq, Prod.mk.injEq] at H
     obtain ⟨rfl, rfl, rfl, rfl⟩ := H
     try go_wp2
     replace HO_7 := am (Kd.R_drew HO_7.out)
     replace HO_378000 := am (Kd.R_drew HO_378000.out)
     replace HO_378001 := am (Kd.S_drew HO_378001.out)
     replace BK370 := am (blk_drew BK370.out)
     replace BK377 := am (blk_drew BK377.out)
     replace HI0 := am (IsS93.drew HI0.out)
     replace HK := am (keep_drew HK.out)
     replace HB := am (below_drew1 HB.out)
     obtain ⟨Ao108, co108, eo108⟩ := Kd.R_slice HO_378000.out
     (first | subst eo108 | (injection eo108 with f1_ f2_ f3_; have f4_ := f1_.symm; have f5_ := f3_.symm; clear f1_ f2_ f3_; subst f4_; subst f5_))
     obtain ⟨Ao110, co110, eo110⟩ := Kd.S_slice HO_378001.out
     (first | subst eo110 | (injection eo110 with f1_ f2_ f3_; have f4_ := f1_.symm; have f5_ := f3_.symm; clear f1_ f2_ f3_; subst f4_; subst f5_))
     refine start_ (n := 4) (S := fun w' => w'.cell? ⟨gb377, 0, none⟩ = some (.slice Ao108 x378000_1.length co108) ∧ w'.cell? ⟨gb377, 1, none⟩ = some (.slice Ao110 x378001_1.length co110)) (ds := []) (bs 4 0) (by kernel_rfl) rfl rfl ⟨ce0 BK377, ce1 BK377⟩ (fun hHeld => ?_)
     generalize wr.drew = w107 at HO_7 HO_378000 HO_378001 BK370 BK377 HI0 HK HB hHeld ⊢
     refine pu 0 39 4 1 rfl rfl ?_
     refine pu 2 4 4 5 rfl rfl ?_
     refine ta2 1 40 4 7 rfl rfl hHeld ?_
     refine oz 3 4 15 rfl rfl (fun K hK => ?_)
     have hs109 := ce0 BK370
     have hfs109 := bfz BK370 0
     have hns109_1 := NB377_370.out
     have hms109_1 := NB370_377.out
     have hs111 := ce1 BK370
     have hfs111 := bfz BK370 1
     have hns111_1 := NB377_370.out
     have hms111_1 := NB370_377.out
     refine skip_ (w1 := ?_) (by rfl) rfl ?_ ?_
     rotate_left
     · go_simp
       rfl
     refine hK.out _ _ ⟨((cell_far (p := ⟨gb370, _, none⟩) NB377_370.out _).trans (((cell_far (p := ⟨gb370, _, none⟩) NB377_370.out _).trans (hHeld.1)))), ((cell_far (p := ⟨gb370, _, none⟩) NB377_370.out _).trans (((cell_far (p := ⟨gb370, _, none⟩) NB377_370.out _).trans (hHeld.2))))⟩ (fun hHeld => ?_)
     clear hK K
     refine done_ (by kernel_rfl) ?_
     try go_wp2
     refine bodyPost_ret (results_tc rfl _ _ gb370 31 #[.slice Ao108 x378000_1.length co108, .slice Ao110 x378001_1.length co110] (0, 0) _ rfl (zp BK370) Try.underlying31 rfl (by kernel_rfl)) rfl ?_
     exact ⟨_, _, _, zw, by (with_reducible repeat (first | apply Kd.R_alloc | apply Kd.R_drewN | apply Kd.R_drew)); exact Kd.R_mono (Kd.R_far (p := ⟨gb370, 1, none⟩) (Kd.R_far (p := ⟨gb370, 0, none⟩) (Kd.R_types HO_7.out BK370.out (by decide)) (fun _ hk => hk.2) (.slice Ao108 x378000_1.length co108)) (fun _ hk => hk.2) (.slice Ao110 x378001_1.length co110)) (fun _ hk => trivial), by (with_reducible repeat (first | apply Kd.R_alloc | apply Kd.R_drewN | apply Kd.R_drew)); exact Kd.R_mono (Kd.R_far (p := ⟨gb370, 1, none⟩) (Kd.R_far (p := ⟨gb370, 0, none⟩) (Kd.R_types HO_378000.out BK370.out (by decide)) (fun _ hk => hk.2) (.slice Ao108 x378000_1.length co108)) (fun _ hk => hk.2) (.slice Ao110 x378001_1.length co110)) (fun _ hk => trivial), by (with_reducible repeat (first | apply Kd.S_alloc | apply Kd.S_drewN | apply Kd.S_drew)); exact Kd.S_mono (Kd.S_far (p := ⟨gb370, 1, none⟩) (Kd.S_far (p := ⟨gb370, 0, none⟩) (Kd.S_types HO_378001.out BK370.out (by decide)) (fun _ hk => hk.2) (.slice Ao108 x378000_1.length co108)) (fun _ hk => hk.2) (.slice Ao110 x378001_1.length co110)) (fun _ hk => trivial), (zi HI0), (zb HB), (zh HK)⟩
   rw [if_pos c14] at H
   have c14b0 : decide (x8_1 < a1) = true := decide_eq_true c14
   clear c14
   replace H := obs H
   obtain ⟨⟨t381, t382, t383, t384, t385, t386⟩, A150, H⟩ := H
   replace H : ((spec_l11Copy.f k1 x378000_1 x378001_1).bind fun bt388 => ((spec_l12Do.f k1 bt388.1 bt388.2 t381 t382 t383 t384 t385).bind fun bt394 => ((spec_OpOk.f k1 t381 t382 t383 t384 t385).bind fun t402 => (if t402 = true then (if bt394.2.2 = true then (if x7_1.length < 2199023255552 then (spec_l71Ops.l0 k1 a1 (x7_1 ++ [(⟨t381, t382, t383, t384, t385⟩ : S103)]) (wrap64 (x8_1 + 1)) s0_0 t386 bt394.1 bt394.2.1) else (none)) else (spec_l71Ops.l0 k1 a1 x7_1 (wrap64 (x8_1 + 1)) s0_0 t386 x378000_1 x378001_1)) else (spec_l71Ops.l0 k1 a1 x7_1 (wrap64 (x8_1 + 1)) s0_0 t386 x378000_1 x378001_1))))) = some (r1, r2, r3, r4) := H
   have A15 := am A150
   clear A150
   replace H := obs H
   obtain ⟨⟨t388, t391⟩, A160, H⟩ := H
   replace H : ((spec_l12Do.f k1 t388 t391 t381 t382 t383 t384 t385).bind fun bt394 => ((spec_OpOk.f k1 t381 t382 t383 t384 t385).bind fun t402 => (if t402 = true then (if bt394.2.2 = true then (if x7_1.length < 2199023255552 then (spec_l71Ops.l0 k1 a1 (x7_1 ++ [(⟨t381, t382, t383, t384, t385⟩ : S103)]) (wrap64 (x8_1 + 1)) s0_0 t386 bt394.1 bt394.2.1) else (none)) else (spec_l71Ops.l0 k1 a1 x7_1 (wrap64 (x8_1 + 1)) s0_0 t386 x378000_1 x378001_1)) else (spec_l71Ops.l0 k1 a1 x7_1 (wrap64 (x8_1 + 1)) s0_0 t386 x378000_1 x378001_1)))) = some (r1, r2, r3, r4) := H
   have A16 := am A160
   clear A160
   replace H := obs H
   obtain ⟨⟨t394, t397, t400⟩, A170, H⟩ := H
   replace H : ((spec_OpOk.f k1 t381 t382 t383 t384 t385).bind fun t402 => (if t402 = true then (if t400 = true then (if x7_1.length < 2199023255552 then (spec_l71Ops.l0 k1 a1 (x7_1 ++ [(⟨t381, t382, t383, t384, t385⟩ : S103)]) (wrap64 (x8_1 + 1)) s0_0 t386 t394 t397) else (none)) else (spec_l71Ops.l0 k1 a1 x7_1 (wrap64 (x8_1 + 1)) s0_0 t386 x378000_1 x378001_1)) else (spec_l71Ops.l0 k1 a1 x7_1 (wrap64 (x8_1 + 1)) s0_0 t386 x378000_1 x378001_1))) = some (r1, r2, r3, r4) := H
   have A17 := am A170
   clear A170
   replace H := obs H
   obtain ⟨t402, A180, H⟩ := H
   replace H : (if t402 = true then (if t400 = true then (if x7_1.length < 2199023255552 then (spec_l71Ops.l0 k1 a1 (x7_1 ++ [(⟨t381, t382, t383, t384, t385⟩ : S103)]) (wrap64 (x8_1 + 1)) s0_0 t386 t394 t397) else (none)) else (spec_l71Ops.l0 k1 a1 x7_1 (wrap64 (x8_1 + 1)) s0_0 t386 x378000_1 x378001_1)) else (spec_l71Ops.l0 k1 a1 x7_1 (wrap64 (x8_1 + 1)) s0_0 t386 x378000_1 x378001_1)) = some (r1, r2, r3, r4) := H
   have A18 := am A180
   clear A180
   have HH_ := am H
   clear H
   have hnb81 := NB377_370.out
   have hnc81 := NB370_377.out
   have hnb82 := NB377_0.out
   have hnc82 := NB0_377.out
   have hcz83_0 := ce0 BK377
   have hcz83_1 := ce1 BK377
   have hfz83_0 := bfz BK377 0
   have hfz83_1 := bfz BK377 1
   obtain ⟨Ao84, co84, eo84⟩ := Kd.R_slice HO_378000.out
   subst eo84
   obtain ⟨Ao85, co85, eo85⟩ := Kd.S_slice HO_378001.out
   subst eo85
   try go_wp2_with (first | ((with_reducible refine gate_callee (f := 80) rfl ?_); refine gl Try.func80 21 #[.pointer (some ⟨g, 0, none⟩), .agg #[.slice Ao84 x378000_1.length co84, .slice Ao85 x378001_1.length co85]] rfl rfl rfl ?_; (with_reducible refine (spec_l71Fits.calls k1 g s0_0 x1001_1 _ _ x378000_1 _ _ x378001_1 t381 t382 t383 t384 t385 t386 w0 _ ?side1 ?side2 ?side3 ?side4 ?side5 ?side6 A15.out).mono ?_); (case side1 => exact zi HI0); (case side2 => exact zb HB); (case side3 => exact Kd.C_foot_own (IsS93.apart (zi HI0) (zr HO_378000) (by decide)) (fun _ h_ => h_.2)); (case side4 => exact (Kd.R_reads' HO_378000.out).2.1); (case side5 => exact Kd.C_foot_own ((Kd.S_R (IsS93.apartS (zi HI0) (zs HO_378001) (by decide)))) (fun _ h_ => h_.2)); (case side6 => exact (Kd.S_reads' HO_378001.out).2.1); rintro e w86 ⟨rfl, hi, hb, hk⟩; refine ⟨_, rfl, ?_⟩; replace HO_7 := am (Kd.R_mono (Kd.R_keep (IsS93.apart (zi HI0) (zr HO_7) (by decide)) hk (fun _ h => h.2)) (fun _ h => h.1)); replace HO_378000 := am (Kd.R_mono (Kd.R_keep (IsS93.apart (zi HI0) (zr HO_378000) (by decide)) hk (fun _ h => h.2)) (fun _ h => h.1)); replace HO_378001 := am (Kd.S_mono (Kd.S_keep (IsS93.apartS (zi HI0) (zs HO_378001) (by decide)) hk (fun _ h => h.2)) (fun _ h => h.1)); replace BK370 := am (KeepBut.blk hk (zk BK370) NB370_0.out (by simp)); replace BK377 := am (KeepBut.blk hk (zk BK377) NB377_0.out (by simp)); replace HK := am (KeepBut.trans (zh HK) hk (.inl rfl)); replace HB := am (hb); replace HI0 := am (hi); (try clear hb); (try clear hb2); (try clear hk); (try clear hi)) | ((with_reducible refine gate_dst (N := 9) rfl ?_); refine bx 103 #[.int .i64 0, .string (⟨#[]⟩ : ByteArray), .string (⟨#[]⟩ : ByteArray), .int .i64 0, .string (⟨#[]⟩ : ByteArray)] ?_; intro gb387 hg w87 hbox hb; replace HO_7 := am (Kd.R_below (Kd.R_elderB (zr HO_7) gb387 (Nat.le_of_eq hg.symm)) hb); replace HO_378000 := am (Kd.R_below (zr HO_378000) hb); replace HO_378001 := am (Kd.S_below (zs HO_378001) hb); replace HB := am (below_step (zb HB) hb); have BK387 := am (hbox); have GW387 := am (zm hg (zh HK)); have GE387 := am ((Nat.le_trans HW0.out (zm hg (zh HK)))); replace HK := am (KeepBut.trans (zh HK) (KeepBut.of_below hb g none) (.inl rfl)); have NB370_387 := am (zx hg (zk BK370)); have NB387_370 := am (zy hg (zk BK370)); replace BK370 := am (blk_below (zk BK370) hb); have NB377_387 := am (zx hg (zk BK377)); have NB387_377 := am (zy hg (zk BK377)); replace BK377 := am (blk_below (zk BK377) hb); have NB0_387 := am (ix hg (zi HI0)); have NB387_0 := am (iy hg (zi HI0)); replace HI0 := am (IsS93.below (zi HI0) hb); clear hb hbox hg; have hnb88 := NB387_370.out; have hnc88 := NB370_387.out; have hnb89 := NB387_377.out; have hnc89 := NB377_387.out; have hnb90 := NB387_0.out; have hnc90 := NB0_387.out; have hcz91_0 := ce0 BK387; have hcz91_1 := ce1 BK387; have hcz91_2 := ce2 BK387; have hcz91_3 := ce3 BK387; have hcz91_4 := ce4 BK387; have hfz91_0 := bfz BK387 0; have hfz91_1 := bfz BK387 1; have hfz91_2 := bfz BK387 2; have hfz91_3 := bfz BK387 3; have hfz91_4 := bfz BK387 4))
   have n0_ : Aside0 (Kd.R k103 103 (((((w87.setCell ⟨gb387, 0, none⟩ (.int .i64 t381)).setCell ⟨gb387, 1, none⟩ (.string t382)).setCell ⟨gb387, 2, none⟩ (.string t383)).setCell ⟨gb387, 3, none⟩ (.int .i64 t384)).setCell ⟨gb387, 4, none⟩ (.string t385)) w.heap.size (fun k_ => k_ ≠ gb387) u7 x7_1) := ⟨by (with_reducible repeat (first | apply Kd.R_alloc | apply Kd.R_drewN | apply Kd.R_drew)); exact Kd.R_mono (Kd.R_far (p := ⟨gb387, 4, none⟩) (Kd.R_far (p := ⟨gb387, 3, none⟩) (Kd.R_far (p := ⟨gb387, 2, none⟩) (Kd.R_far (p := ⟨gb387, 1, none⟩) (Kd.R_far (p := ⟨gb387, 0, none⟩) (Kd.R_mono HO_7.out (fun k_ hk => (⟨hk, hk.2⟩ : _ ∧ k_ ≠ gb387))) (fun _ hk => hk.2) (.int .i64 t381)) (fun _ hk => hk.2) (.string t382)) (fun _ hk => hk.2) (.string t383)) (fun _ hk => hk.2) (.int .i64 t384)) (fun _ hk => hk.2) (.string t385)) (fun _ hk => hk.1.2)⟩
   have n1_ : Aside0 (Kd.R k55 55 (((((w87.setCell ⟨gb387, 0, none⟩ (.int .i64 t381)).setCell ⟨gb387, 1, none⟩ (.string t382)).setCell ⟨gb387, 2, none⟩ (.string t383)).setCell ⟨gb387, 3, none⟩ (.int .i64 t384)).setCell ⟨gb387, 4, none⟩ (.string t385)) w.heap.size (fun _ => True) (.slice Ao84 x378000_1.length co84) x378000_1) := ⟨by (with_reducible repeat (first | apply Kd.R_alloc | apply Kd.R_drewN | apply Kd.R_drew)); exact Kd.R_mono (Kd.R_far (p := ⟨gb387, 4, none⟩) (Kd.R_far (p := ⟨gb387, 3, none⟩) (Kd.R_far (p := ⟨gb387, 2, none⟩) (Kd.R_far (p := ⟨gb387, 1, none⟩) (Kd.R_far (p := ⟨gb387, 0, none⟩) (Kd.R_types HO_378000.out BK387.out (by decide)) (fun _ hk => hk.2) (.int .i64 t381)) (fun _ hk => hk.2) (.string t382)) (fun _ hk => hk.2) (.string t383)) (fun _ hk => hk.2) (.int .i64 t384)) (fun _ hk => hk.2) (.string t385)) (fun _ hk => trivial)⟩
   have n2_ : Aside0 (Kd.S k38 38 (((((w87.setCell ⟨gb387, 0, none⟩ (.int .i64 t381)).setCell ⟨gb387, 1, none⟩ (.string t382)).setCell ⟨gb387, 2, none⟩ (.string t383)).setCell ⟨gb387, 3, none⟩ (.int .i64 t384)).setCell ⟨gb387, 4, none⟩ (.string t385)) w.heap.size (fun _ => True) (.slice Ao85 x378001_1.length co85) x378001_1) := ⟨by (with_reducible repeat (first | apply Kd.S_alloc | apply Kd.S_drewN | apply Kd.S_drew)); exact Kd.S_mono (Kd.S_far (p := ⟨gb387, 4, none⟩) (Kd.S_far (p := ⟨gb387, 3, none⟩) (Kd.S_far (p := ⟨gb387, 2, none⟩) (Kd.S_far (p := ⟨gb387, 1, none⟩) (Kd.S_far (p := ⟨gb387, 0, none⟩) (Kd.S_types HO_378001.out BK387.out (by decide)) (fun _ hk => hk.2) (.int .i64 t381)) (fun _ hk => hk.2) (.string t382)) (fun _ hk => hk.2) (.string t383)) (fun _ hk => hk.2) (.int .i64 t384)) (fun _ hk => hk.2) (.string t385)) (fun _ hk => trivial)⟩
   have n3_ : Aside0 ((((((w87.setCell ⟨gb387, 0, none⟩ (.int .i64 t381)).setCell ⟨gb387, 1, none⟩ (.string t382)).setCell ⟨gb387, 2, none⟩ (.string t383)).setCell ⟨gb387, 3, none⟩ (.int .i64 t384)).setCell ⟨gb387, 4, none⟩ (.string t385)).heap[gb370]? = some (.cells #[.slice none 0 0, .slice none 0 0] 31 (0, 0))) := ⟨zk BK370⟩
   have n4_ : Aside0 ((((((w87.setCell ⟨gb387, 0, none⟩ (.int .i64 t381)).setCell ⟨gb387, 1, none⟩ (.string t382)).setCell ⟨gb387, 2, none⟩ (.string t383)).setCell ⟨gb387, 3, none⟩ (.int .i64 t384)).setCell ⟨gb387, 4, none⟩ (.string t385)).heap[gb377]? = some (.cells #[.slice Ao84 x378000_1.length co84, .slice Ao85 x378001_1.length co85] 31 (0, 0))) := ⟨zk BK377⟩
   have n5_ : Aside0 ((((((w87.setCell ⟨gb387, 0, none⟩ (.int .i64 t381)).setCell ⟨gb387, 1, none⟩ (.string t382)).setCell ⟨gb387, 2, none⟩ (.string t383)).setCell ⟨gb387, 3, none⟩ (.int .i64 t384)).setCell ⟨gb387, 4, none⟩ (.string t385)).heap[gb387]? = some (.cells #[.int .i64 t381, .string t382, .string t383, .int .i64 t384, .string t385] 103 (0, 0))) := ⟨zp BK387⟩
   have n6_ : Aside0 (IsS93 w0 (((((w87.setCell ⟨gb387, 0, none⟩ (.int .i64 t381)).setCell ⟨gb387, 1, none⟩ (.string t382)).setCell ⟨gb387, 2, none⟩ (.string t383)).setCell ⟨gb387, 3, none⟩ (.int .i64 t384)).setCell ⟨gb387, 4, none⟩ (.string t385)) g s0_0 t386) := ⟨zi HI0⟩
   have n7_ : Aside0 (KeepBut w (((((w87.setCell ⟨gb387, 0, none⟩ (.int .i64 t381)).setCell ⟨gb387, 1, none⟩ (.string t382)).setCell ⟨gb387, 2, none⟩ (.string t383)).setCell ⟨gb387, 3, none⟩ (.int .i64 t384)).setCell ⟨gb387, 4, none⟩ (.string t385)) g none) := ⟨zh HK⟩
   have n8_ : Aside0 (Below w0.heap.size w0 (((((w87.setCell ⟨gb387, 0, none⟩ (.int .i64 t381)).setCell ⟨gb387, 1, none⟩ (.string t382)).setCell ⟨gb387, 2, none⟩ (.string t383)).setCell ⟨gb387, 3, none⟩ (.int .i64 t384)).setCell ⟨gb387, 4, none⟩ (.string t385))) := ⟨zb HB⟩
   (try clear HO_7)
   (try clear HO_378000)
   (try clear HO_378001)
   (try clear BK370)
   (try clear BK377)
   (try clear BK387)
   (try clear HI0)
   (try clear HK)
   (try clear HB)
   generalize (((((w87.setCell ⟨gb387, 0, none⟩ (.int .i64 t381)).setCell ⟨gb387, 1, none⟩ (.string t382)).setCell ⟨gb387, 2, none⟩ (.string t383)).setCell ⟨gb387, 3, none⟩ (.int .i64 t384)).setCell ⟨gb387, 4, none⟩ (.string t385)) = w92 at n0_ n1_ n2_ n3_ n4_ n5_ n6_ n7_ n8_ ⊢
   have HO_7 := n0_
   have HO_378000 := n1_
   have HO_378001 := n2_
   have BK370 := n3_
   have BK377 := n4_
   have BK387 := n5_
   have HI0 := n6_
   have HK := n7_
   have HB := n8_
   clear n0_ n1_ n2_ n3_ n4_ n5_ n6_ n7_ n8_
   replace HO_7 := am (Kd.R_drew HO_7.out)
   replace HO_378000 := am (Kd.R_drew HO_378000.out)
   replace HO_378001 := am (Kd.S_drew HO_378001.out)
   replace BK370 := am (blk_drew BK370.out)
   replace BK377 := am (blk_drew BK377.out)
   replace BK387 := am (blk_drew BK387.out)
   replace HI0 := am (IsS93.drew HI0.out)
   replace HK := am (keep_drew HK.out)
   replace HB := am (below_drew1 HB.out)
   refine start_ (n := 10) (S := fun w' => w'.cell? ⟨gb377, 0, none⟩ = some (.slice Ao84 x378000_1.length co84) ∧ w'.cell? ⟨gb377, 1, none⟩ = some (.slice Ao85 x378001_1.length co85) ∧ w'.cell? ⟨gb387, 0, none⟩ = some (.int .i64 t381) ∧ w'.cell? ⟨gb387, 1, none⟩ = some (.string t382) ∧ w'.cell? ⟨gb387, 2, none⟩ = some (.string t383) ∧ w'.cell? ⟨gb387, 3, none⟩ = some (.int .i64 t384) ∧ w'.cell? ⟨gb387, 4, none⟩ = some (.string t385)) (ds := []) (bs 10 0) (by kernel_rfl) rfl rfl ⟨ce0 BK377, ce1 BK377, ce0 BK387, ce1 BK387, ce2 BK387, ce3 BK387, ce4 BK387⟩ (fun hHeld => ?_); refine with_tabW spec_l71Ops.tab7 spec_l71Ops.bits7 (fun HT_ HW_ => ?_)
   generalize w92.drew = w93 at HO_7 HO_378000 HO_378001 BK370 BK377 BK387 HI0 HK HB hHeld ⊢
   refine ta7 0 23 10 1 rfl rfl hHeld ?_
   refine ta7 2 25 10 5 rfl rfl hHeld ?_
   refine join_ (σ := Value × Value × Value × Value × Nat) 2 (bs 10 255) (fun s_ => [(24, .agg #[s_.1, s_.2.1]), (26, .tuple #[.agg #[s_.2.2.1, s_.2.2.2.1], .bool t400]), (10, .pointer (some ⟨s_.2.2.2.2, 0, none⟩)), (22, .tuple #[.agg #[s_.2.2.1, s_.2.2.2.1], .bool t400]), (27, .agg #[s_.2.2.1, s_.2.2.2.1]), (28, .bool t400)]) (fun s_ w' => (w'.cell? ⟨gb377, 0, none⟩ = some (.slice Ao84 x378000_1.length co84) ∧ w'.cell? ⟨gb377, 1, none⟩ = some (.slice Ao85 x378001_1.length co85) ∧ w'.cell? ⟨gb387, 0, none⟩ = some (.int .i64 t381) ∧ w'.cell? ⟨gb387, 1, none⟩ = some (.string t382) ∧ w'.cell? ⟨gb387, 2, none⟩ = some (.string t383) ∧ w'.cell? ⟨gb387, 3, none⟩ = some (.int .i64 t384) ∧ w'.cell? ⟨gb387, 4, none⟩ = some (.string t385)) ∧ (Kd.R k55 55 w' w.heap.size (fun _ => True) s_.2.2.1 t394) ∧ (Kd.S k38 38 w' w.heap.size (fun _ => True) s_.2.2.2.1 t397) ∧ (Kd.R k55 55 w' w.heap.size (fun _ => True) (.slice Ao84 x378000_1.length co84) x378000_1) ∧ (Kd.S k38 38 w' w.heap.size (fun _ => True) (.slice Ao85 x378001_1.length co85) x378001_1) ∧ (Kd.R k103 103 w' w.heap.size (fun k_ => k_ ≠ gb387) u7 x7_1) ∧ (w'.heap[gb370]? = some (.cells #[.slice none 0 0, .slice none 0 0] 31 (0, 0))) ∧ (w'.heap[gb377]? = some (.cells #[.slice Ao84 x378000_1.length co84, .slice Ao85 x378001_1.length co85] 31 (0, 0))) ∧ (w'.heap[gb387]? = some (.cells #[.int .i64 t381, .string t382, .string t383, .int .i64 t384, .string t385] 103 (0, 0))) ∧ (w'.heap[s_.2.2.2.2]? = some (.cells #[.slice none 0 0, .slice none 0 0] 31 (0, 0))) ∧ (w.heap.size ≤ s_.2.2.2.2) ∧ (w0.heap.size ≤ s_.2.2.2.2) ∧ (g ≠ s_.2.2.2.2) ∧ (s_.2.2.2.2 ≠ g) ∧ (gb370 ≠ s_.2.2.2.2) ∧ (s_.2.2.2.2 ≠ gb370) ∧ (gb377 ≠ s_.2.2.2.2) ∧ (s_.2.2.2.2 ≠ gb377) ∧ (gb387 ≠ s_.2.2.2.2) ∧ (s_.2.2.2.2 ≠ gb387) ∧ (IsS93 w0 w' g s0_0 t386) ∧ (KeepBut w w' g none) ∧ (Below w0.heap.size w0 w')) ?_ ?_
   rotate_left
   · intro hCont
     refine two_ (i := 1) (j := 7) (Ni := some 24) (Nj := some 10) (bs 10 7) (bs 10 133) rfl rfl rfl rfl (two_of HT_.out (by kernel_rfl)) (by decide) (by decide) (fun K hK => ?_) (fun K hK => ?_)
     · skip
       refine gs Try.func82 #[.agg #[.slice Ao84 x378000_1.length co84, .slice Ao85 x378001_1.length co85]] rfl rfl ?_
       with_reducible refine (spec_l11Copy.calls k1 _ _ x378000_1 _ _ x378001_1 t388 t391 _ ?side1 ?side2 ?side3 ?side4 A16.out).mono ?_
       (case side1 => exact zc (Kd.R_reads' HO_378000.out).2.2)
       (case side2 => exact (Kd.R_reads' HO_378000.out).2.1)
       (case side3 => exact zc (Kd.S_reads' HO_378001.out).2.2)
       (case side4 => exact (Kd.S_reads' HO_378001.out).2.1)
       rintro e w94 ⟨v389, v392, rfl, ho0, ho1, hb⟩
       refine ⟨_, rfl, ?_⟩
       replace HO_7 := am (Kd.R_below (zr HO_7) hb)
       have HO390 := am (Kd.R_lower (Kd.R_new' ho0 (Kd.R_lt (zr HO_378000))) (keep_size (zh HK)))
       replace HO_378000 := am (Kd.R_elder' (zr HO_378000) (Kd.R_base ho0) hb)
       have HO393 := am (Kd.S_lower (Kd.S_new' ho1 (Kd.S_lt (zs HO_378001))) (keep_size (zh HK)))
       replace HO_378001 := am (Kd.S_elder' (zs HO_378001) (Kd.S_base ho1) hb)
       replace BK370 := am (blk_below (zk BK370) hb)
       replace BK377 := am (blk_below (zk BK377) hb)
       replace HI0 := am (IsS93.below (zi HI0) hb)
       replace BK387 := am (blk_below (zk BK387) hb)
       replace HK := am (KeepBut.trans (zh HK) (KeepBut.of_below hb g none) (.inl rfl))
       replace HB := am (below_step (zb HB) hb)
       (try clear hb)
       (try clear hb2)
       (try clear hk)
       (try clear hi)
       (try clear ho0)
       (try clear ho1)
       obtain ⟨Ao95, co95, eo95⟩ := Kd.R_slice HO390.out
       (first | subst eo95 | (injection eo95 with f1_ f2_ f3_; have f4_ := f1_.symm; have f5_ := f3_.symm; clear f1_ f2_ f3_; subst f4_; subst f5_))
       obtain ⟨Ao96, co96, eo96⟩ := Kd.S_slice HO393.out
       (first | subst eo96 | (injection eo96 with f1_ f2_ f3_; have f4_ := f1_.symm; have f5_ := f3_.symm; clear f1_ f2_ f3_; subst f4_; subst f5_))
       refine hK.out _ _ ⟨ce0 BK377, ce1 BK377, ce0 BK387, ce1 BK387, ce2 BK387, ce3 BK387, ce4 BK387⟩ (fun hHeld => ?_)
       clear hK K
       refine norm_ (a' := ?_) ?_ ?_
       rotate_left
       · show Act.put _ (some 24) _ = _
         simp only [Act.put, List.setIfInBounds_toArray, List.set_cons_zero, List.set_cons_succ, i64_w, i32_w]
         rfl
       refine two_ (i := 3) (j := 7) (Ni := some 26) (Nj := some 10) (bs 10 15) (bs 10 135) rfl rfl rfl rfl (two_of HT_.out (by kernel_rfl)) (by decide) (by decide) (fun K hK => ?_) (fun K hK => ?_)
       · skip
         refine gs Try.func81 #[.agg #[.slice Ao95 t388.length co95, .slice Ao96 t391.length co96], .agg #[.int .i64 t381, .string t382, .string t383, .int .i64 t384, .string t385]] rfl rfl ?_
         with_reducible refine (spec_l12Do.callsB k1 (fun k_ => some k_ = (.slice Ao95 t388.length co95 : Value).ownBlock) (.slice Ao95 t388.length co95) t388 (fun k_ => some k_ = (.slice Ao96 t391.length co96 : Value).ownBlock) (.slice Ao96 t391.length co96) t391 t381 t382 t383 t384 t385 t394 t397 t400 w0 _ w.heap.size ?side1 HL.out ?sbw ?side2 ?side3 A17.out).mono ?_
         (case side1 => exact zb HB)
         (case side2 => exact Kd.R_tight rfl HO390.out)
         (case side3 => exact Kd.S_mono (HO393.out) (fun _ _ => trivial))
         (case sbw => exact keep_size (w := w) (g := g) (row := none) (zh HK))
         rintro e w97 ⟨v395, v398, rfl, ho0, ho1, hb, hkp⟩
         refine ⟨_, rfl, ?_⟩
         replace HO_7 := am (Kd.R_mono (ok' := fun k_ => k_ ≠ gb387) (Kd.R_keptB ((Kd.R_apart' (Kd.R_apart' HO_7.out (Kd.R_typed HO390.out) (by decide)) (Kd.S_typed HO393.out) (by decide))) hkp (fun k_ hk_ hs_ => Or.elim hs_ (fun e_ => (hk_.1.2) e_) (fun e_ => (hk_.2) e_))) (fun k_ hk_ => hk_.1.1.1))
         replace HO_378000 := am (Kd.R_mono (ok' := fun k_ => True) (Kd.R_keptB ((Kd.R_apart' HO_378000.out (Kd.S_typed HO393.out) (by decide))) hkp (fun k_ hk_ hs_ => Or.elim hs_ (fun e_ => (hk_.1.2) e_) (fun e_ => (hk_.2) e_))) (fun k_ hk_ => trivial))
         replace HO_378001 := am (Kd.S_mono (ok' := fun k_ => True) (Kd.S_keptB ((Kd.S_apart' HO_378001.out (Kd.R_typed HO390.out) (by decide))) hkp (fun k_ hk_ hs_ => Or.elim hs_ (fun e_ => (hk_.2) e_) (fun e_ => (hk_.1.2) e_))) (fun k_ hk_ => trivial))
         replace BK370 := am (blk_kept (zk BK370) hkp (fun hs_ => Or.elim hs_ (fun e_ => (fun e_ => (Kd.R_ne HO390.out BK370.out (by decide)) e_) e_) (fun e_ => (fun e_ => (Kd.S_ne HO393.out BK370.out (by decide)) e_) e_)))
         replace BK377 := am (blk_kept (zk BK377) hkp (fun hs_ => Or.elim hs_ (fun e_ => (fun e_ => (Kd.R_ne HO390.out BK377.out (by decide)) e_) e_) (fun e_ => (fun e_ => (Kd.S_ne HO393.out BK377.out (by decide)) e_) e_)))
         replace HI0 := am (IsS93.kept (zi HI0) hkp (fun hs_ => Or.elim hs_ (fun e_ => (fun e_ => (IsS93.own_ne HI0.out HO390.out (by decide)) e_) e_) (fun e_ => (fun e_ => (IsS93.own_neS HI0.out HO393.out (by decide)) e_) e_)))
         replace BK387 := am (blk_kept (zk BK387) hkp (fun hs_ => Or.elim hs_ (fun e_ => (fun e_ => (Kd.R_ne HO390.out BK387.out (by decide)) e_) e_) (fun e_ => (fun e_ => (Kd.S_ne HO393.out BK387.out (by decide)) e_) e_)))
         have HO396 := am (ho0)
         have HO399 := am (ho1)
         replace HK := am (Kept.keepG (zh HK) hkp (fun k_ hs_ => Or.elim hs_ (fun e_ => (fun e_ => .inr (Kd.R_base HO390.out k_ e_.symm)) e_) (fun e_ => (fun e_ => .inr (Kd.S_base HO393.out k_ e_.symm)) e_)))
         replace HB := am (hb)
         clear HO390 HO393
         (try clear hb)
         (try clear hkp)
         (try clear ho0)
         (try clear ho1)
         refine hK.out _ _ ⟨ce0 BK377, ce1 BK377, ce0 BK387, ce1 BK387, ce2 BK387, ce3 BK387, ce4 BK387⟩ (fun hHeld => ?_)
         clear hK K
         refine norm_ (a' := ?_) ?_ ?_
         rotate_left
         · show Act.put _ (some 26) _ = _
           simp only [Act.put, List.setIfInBounds_toArray, List.set_cons_zero, List.set_cons_succ, i64_w, i32_w]
           rfl
         refine pu 4 22 10 31 rfl rfl ?_
         refine pu 5 27 10 63 rfl rfl ?_
         refine pu 6 28 10 127 rfl rfl ?_
         refine oz 7 10 255 rfl rfl (fun K hK => ?_)
         refine box_step ?hg (N := 10) ?hd (cs := #[.slice none 0 0, .slice none 0 0]) (t := 31) ?hr ?_; (case hd => rfl); (case hg => rfl); (case hr => first | (go_simp; done) | (go_simp; rfl))
         intro gb401 hg w98 hbox hb
         replace HO_7 := am (Kd.R_below (zr HO_7) hb)
         replace HO_378000 := am (Kd.R_below (zr HO_378000) hb)
         replace HO_378001 := am (Kd.S_below (zs HO_378001) hb)
         replace HO396 := am (Kd.R_below (zr HO396) hb)
         replace HO399 := am (Kd.S_below (zs HO399) hb)
         replace HB := am (below_step (zb HB) hb)
         have BK401 := am (hbox)
         have GW401 := am (zm hg (zh HK))
         have GE401 := am ((Nat.le_trans HW0.out (zm hg (zh HK))))
         replace HK := am (KeepBut.trans (zh HK) (KeepBut.of_below hb g none) (.inl rfl))
         have NB370_401 := am (zx hg (zk BK370))
         have NB401_370 := am (zy hg (zk BK370))
         replace BK370 := am (blk_below (zk BK370) hb)
         have NB377_401 := am (zx hg (zk BK377))
         have NB401_377 := am (zy hg (zk BK377))
         replace BK377 := am (blk_below (zk BK377) hb)
         have NB387_401 := am (zx hg (zk BK387))
         have NB401_387 := am (zy hg (zk BK387))
         replace BK387 := am (blk_below (zk BK387) hb)
         have NB0_401 := am (ix hg (zi HI0))
         have NB401_0 := am (iy hg (zi HI0))
         replace HI0 := am (IsS93.below (zi HI0) hb)
         clear hb hbox hg
         refine hK.out _ _ ⟨ce0 BK377, ce1 BK377, ce0 BK387, ce1 BK387, ce2 BK387, ce3 BK387, ce4 BK387⟩ (fun hHeld => ?_)
         clear hK K
         refine norm_ (a' := ?_) ?_ ?_
         rotate_left
         · show Act.put _ (some 10) _ = _
           simp only [Act.put, List.setIfInBounds_toArray, List.set_cons_zero, List.set_cons_succ, i64_w, i32_w]
           rfl
         exact norm_ (by simp only [putAll, Act.put, List.setIfInBounds_toArray, List.set_cons_zero, List.set_cons_succ]) (hCont (.slice Ao95 t388.length co95, .slice Ao96 t391.length co96, v395, v398, gb401) _ ⟨hHeld, (zr HO396), (zs HO399), (zr HO_378000), (zs HO_378001), (zr HO_7), (zk BK370), (zk BK377), (zk BK387), (zk BK401), GW401.out, GE401.out, NB0_401.out, NB401_0.out, NB370_401.out, NB401_370.out, NB377_401.out, NB401_377.out, NB387_401.out, NB401_387.out, (zi HI0), (zh HK), (zb HB)⟩)
       skip
       refine box_step ?hg (N := 10) ?hd (cs := #[.slice none 0 0, .slice none 0 0]) (t := 31) ?hr ?_; (case hd => rfl); (case hg => rfl); (case hr => first | (go_simp; done) | (go_simp; rfl))
       intro gb401 hg w95 hbox hb
       replace HO_7 := am (Kd.R_below (zr HO_7) hb)
       replace HO_378000 := am (Kd.R_below (zr HO_378000) hb)
       replace HO_378001 := am (Kd.S_below (zs HO_378001) hb)
       replace HO390 := am (Kd.R_below (zr HO390) hb)
       replace HO393 := am (Kd.S_below (zs HO393) hb)
       replace HB := am (below_step (zb HB) hb)
       have BK401 := am (hbox)
       have GW401 := am (zm hg (zh HK))
       have GE401 := am ((Nat.le_trans HW0.out (zm hg (zh HK))))
       replace HK := am (KeepBut.trans (zh HK) (KeepBut.of_below hb g none) (.inl rfl))
       have NB370_401 := am (zx hg (zk BK370))
       have NB401_370 := am (zy hg (zk BK370))
       replace BK370 := am (blk_below (zk BK370) hb)
       have NB377_401 := am (zx hg (zk BK377))
       have NB401_377 := am (zy hg (zk BK377))
       replace BK377 := am (blk_below (zk BK377) hb)
       have NB387_401 := am (zx hg (zk BK387))
       have NB401_387 := am (zy hg (zk BK387))
       replace BK387 := am (blk_below (zk BK387) hb)
       have NB0_401 := am (ix hg (zi HI0))
       have NB401_0 := am (iy hg (zi HI0))
       replace HI0 := am (IsS93.below (zi HI0) hb)
       clear hb hbox hg
       obtain ⟨Ao96, co96, eo96⟩ := Kd.R_slice HO390.out
       (first | subst eo96 | (injection eo96 with f1_ f2_ f3_; have f4_ := f1_.symm; have f5_ := f3_.symm; clear f1_ f2_ f3_; subst f4_; subst f5_))
       obtain ⟨Ao97, co97, eo97⟩ := Kd.S_slice HO393.out
       (first | subst eo97 | (injection eo97 with f1_ f2_ f3_; have f4_ := f1_.symm; have f5_ := f3_.symm; clear f1_ f2_ f3_; subst f4_; subst f5_))
       refine hK.out _ _ ⟨ce0 BK377, ce1 BK377, ce0 BK387, ce1 BK387, ce2 BK387, ce3 BK387, ce4 BK387⟩ (fun hHeld => ?_)
       clear hK K
       refine norm_ (a' := ?_) ?_ ?_
       rotate_left
       · show Act.put _ (some 10) _ = _
         simp only [Act.put, List.setIfInBounds_toArray, List.set_cons_zero, List.set_cons_succ, i64_w, i32_w]
         rfl
       refine oz 3 10 143 rfl rfl (fun K hK => ?_)
       refine gs Try.func81 #[.agg #[.slice Ao96 t388.length co96, .slice Ao97 t391.length co97], .agg #[.int .i64 t381, .string t382, .string t383, .int .i64 t384, .string t385]] rfl rfl ?_
       with_reducible refine (spec_l12Do.callsB k1 (fun k_ => some k_ = (.slice Ao96 t388.length co96 : Value).ownBlock) (.slice Ao96 t388.length co96) t388 (fun k_ => some k_ = (.slice Ao97 t391.length co97 : Value).ownBlock) (.slice Ao97 t391.length co97) t391 t381 t382 t383 t384 t385 t394 t397 t400 w0 _ w.heap.size ?side1 HL.out ?sbw ?side2 ?side3 A17.out).mono ?_
       (case side1 => exact zb HB)
       (case side2 => exact Kd.R_tight rfl HO390.out)
       (case side3 => exact Kd.S_mono (HO393.out) (fun _ _ => trivial))
       (case sbw => exact keep_size (w := w) (g := g) (row := none) (zh HK))
       rintro e w98 ⟨v395, v398, rfl, ho0, ho1, hb, hkp⟩
       refine ⟨_, rfl, ?_⟩
       replace HO_7 := am (Kd.R_mono (ok' := fun k_ => k_ ≠ gb387) (Kd.R_keptB ((Kd.R_apart' (Kd.R_apart' HO_7.out (Kd.R_typed HO390.out) (by decide)) (Kd.S_typed HO393.out) (by decide))) hkp (fun k_ hk_ hs_ => Or.elim hs_ (fun e_ => (hk_.1.2) e_) (fun e_ => (hk_.2) e_))) (fun k_ hk_ => hk_.1.1.1))
       replace HO_378000 := am (Kd.R_mono (ok' := fun k_ => True) (Kd.R_keptB ((Kd.R_apart' HO_378000.out (Kd.S_typed HO393.out) (by decide))) hkp (fun k_ hk_ hs_ => Or.elim hs_ (fun e_ => (hk_.1.2) e_) (fun e_ => (hk_.2) e_))) (fun k_ hk_ => trivial))
       replace HO_378001 := am (Kd.S_mono (ok' := fun k_ => True) (Kd.S_keptB ((Kd.S_apart' HO_378001.out (Kd.R_typed HO390.out) (by decide))) hkp (fun k_ hk_ hs_ => Or.elim hs_ (fun e_ => (hk_.2) e_) (fun e_ => (hk_.1.2) e_))) (fun k_ hk_ => trivial))
       replace BK370 := am (blk_kept (zk BK370) hkp (fun hs_ => Or.elim hs_ (fun e_ => (fun e_ => (Kd.R_ne HO390.out BK370.out (by decide)) e_) e_) (fun e_ => (fun e_ => (Kd.S_ne HO393.out BK370.out (by decide)) e_) e_)))
       replace BK377 := am (blk_kept (zk BK377) hkp (fun hs_ => Or.elim hs_ (fun e_ => (fun e_ => (Kd.R_ne HO390.out BK377.out (by decide)) e_) e_) (fun e_ => (fun e_ => (Kd.S_ne HO393.out BK377.out (by decide)) e_) e_)))
       replace HI0 := am (IsS93.kept (zi HI0) hkp (fun hs_ => Or.elim hs_ (fun e_ => (fun e_ => (IsS93.own_ne HI0.out HO390.out (by decide)) e_) e_) (fun e_ => (fun e_ => (IsS93.own_neS HI0.out HO393.out (by decide)) e_) e_)))
       replace BK387 := am (blk_kept (zk BK387) hkp (fun hs_ => Or.elim hs_ (fun e_ => (fun e_ => (Kd.R_ne HO390.out BK387.out (by decide)) e_) e_) (fun e_ => (fun e_ => (Kd.S_ne HO393.out BK387.out (by decide)) e_) e_)))
       replace BK401 := am (blk_kept (zk BK401) hkp (fun hs_ => Or.elim hs_ (fun e_ => (fun e_ => (Kd.R_ne HO390.out BK401.out (by decide)) e_) e_) (fun e_ => (fun e_ => (Kd.S_ne HO393.out BK401.out (by decide)) e_) e_)))
       have HO396 := am (ho0)
       have HO399 := am (ho1)
       replace HK := am (Kept.keepG (zh HK) hkp (fun k_ hs_ => Or.elim hs_ (fun e_ => (fun e_ => .inr (Kd.R_base HO390.out k_ e_.symm)) e_) (fun e_ => (fun e_ => .inr (Kd.S_base HO393.out k_ e_.symm)) e_)))
       replace HB := am (hb)
       clear HO390 HO393
       (try clear hb)
       (try clear hkp)
       (try clear ho0)
       (try clear ho1)
       refine hK.out _ _ ⟨ce0 BK377, ce1 BK377, ce0 BK387, ce1 BK387, ce2 BK387, ce3 BK387, ce4 BK387⟩ (fun hHeld => ?_)
       clear hK K
       refine norm_ (a' := ?_) ?_ ?_
       rotate_left
       · show Act.put _ (some 26) _ = _
         simp only [Act.put, List.setIfInBounds_toArray, List.set_cons_zero, List.set_cons_succ, i64_w, i32_w]
         rfl
       refine pu 4 22 10 159 rfl rfl ?_
       refine pu 5 27 10 191 rfl rfl ?_
       refine pu 6 28 10 255 rfl rfl ?_
       exact norm_ (by simp only [putAll, Act.put, List.setIfInBounds_toArray, List.set_cons_zero, List.set_cons_succ]) (hCont (.slice Ao96 t388.length co96, .slice Ao97 t391.length co97, v395, v398, gb401) _ ⟨hHeld, (zr HO396), (zs HO399), (zr HO_378000), (zs HO_378001), (zr HO_7), (zk BK370), (zk BK377), (zk BK387), (zk BK401), GW401.out, GE401.out, NB0_401.out, NB401_0.out, NB370_401.out, NB401_370.out, NB377_401.out, NB401_377.out, NB387_401.out, NB401_387.out, (zi HI0), (zh HK), (zb HB)⟩)
     skip
     refine box_step ?hg (N := 10) ?hd (cs := #[.slice none 0 0, .slice none 0 0]) (t := 31) ?hr ?_; (case hd => rfl); (case hg => rfl); (case hr => first | (go_simp; done) | (go_simp; rfl))
     intro gb401 hg w94 hbox hb
     replace HO_7 := am (Kd.R_below (zr HO_7) hb)
     replace HO_378000 := am (Kd.R_below (zr HO_378000) hb)
     replace HO_378001 := am (Kd.S_below (zs HO_378001) hb)
     replace HB := am (below_step (zb HB) hb)
     have BK401 := am (hbox)
     have GW401 := am (zm hg (zh HK))
     have GE401 := am ((Nat.le_trans HW0.out (zm hg (zh HK))))
     replace HK := am (KeepBut.trans (zh HK) (KeepBut.of_below hb g none) (.inl rfl))
     have NB370_401 := am (zx hg (zk BK370))
     have NB401_370 := am (zy hg (zk BK370))
     replace BK370 := am (blk_below (zk BK370) hb)
     have NB377_401 := am (zx hg (zk BK377))
     have NB401_377 := am (zy hg (zk BK377))
     replace BK377 := am (blk_below (zk BK377) hb)
     have NB387_401 := am (zx hg (zk BK387))
     have NB401_387 := am (zy hg (zk BK387))
     replace BK387 := am (blk_below (zk BK387) hb)
     have NB0_401 := am (ix hg (zi HI0))
     have NB401_0 := am (iy hg (zi HI0))
     replace HI0 := am (IsS93.below (zi HI0) hb)
     clear hb hbox hg
     refine hK.out _ _ ⟨ce0 BK377, ce1 BK377, ce0 BK387, ce1 BK387, ce2 BK387, ce3 BK387, ce4 BK387⟩ (fun hHeld => ?_)
     clear hK K
     refine norm_ (a' := ?_) ?_ ?_
     rotate_left
     · show Act.put _ (some 10) _ = _
       simp only [Act.put, List.setIfInBounds_toArray, List.set_cons_zero, List.set_cons_succ, i64_w, i32_w]
       rfl
     refine oz 1 10 135 rfl rfl (fun K hK => ?_)
     refine gs Try.func82 #[.agg #[.slice Ao84 x378000_1.length co84, .slice Ao85 x378001_1.length co85]] rfl rfl ?_
     with_reducible refine (spec_l11Copy.calls k1 _ _ x378000_1 _ _ x378001_1 t388 t391 _ ?side1 ?side2 ?side3 ?side4 A16.out).mono ?_
     (case side1 => exact zc (Kd.R_reads' HO_378000.out).2.2)
     (case side2 => exact (Kd.R_reads' HO_378000.out).2.1)
     (case side3 => exact zc (Kd.S_reads' HO_378001.out).2.2)
     (case side4 => exact (Kd.S_reads' HO_378001.out).2.1)
     rintro e w95 ⟨v389, v392, rfl, ho0, ho1, hb⟩
     refine ⟨_, rfl, ?_⟩
     replace HO_7 := am (Kd.R_below (zr HO_7) hb)
     have HO390 := am (Kd.R_lower (Kd.R_new' ho0 (Kd.R_lt (zr HO_378000))) (keep_size (zh HK)))
     replace HO_378000 := am (Kd.R_elder' (zr HO_378000) (Kd.R_base ho0) hb)
     have HO393 := am (Kd.S_lower (Kd.S_new' ho1 (Kd.S_lt (zs HO_378001))) (keep_size (zh HK)))
     replace HO_378001 := am (Kd.S_elder' (zs HO_378001) (Kd.S_base ho1) hb)
     replace BK370 := am (blk_below (zk BK370) hb)
     replace BK377 := am (blk_below (zk BK377) hb)
     replace HI0 := am (IsS93.below (zi HI0) hb)
     replace BK387 := am (blk_below (zk BK387) hb)
     replace BK401 := am (blk_below (zk BK401) hb)
     replace HK := am (KeepBut.trans (zh HK) (KeepBut.of_below hb g none) (.inl rfl))
     replace HB := am (below_step (zb HB) hb)
     (try clear hb)
     (try clear hb2)
     (try clear hk)
     (try clear hi)
     (try clear ho0)
     (try clear ho1)
     obtain ⟨Ao96, co96, eo96⟩ := Kd.R_slice HO390.out
     (first | subst eo96 | (injection eo96 with f1_ f2_ f3_; have f4_ := f1_.symm; have f5_ := f3_.symm; clear f1_ f2_ f3_; subst f4_; subst f5_))
     obtain ⟨Ao97, co97, eo97⟩ := Kd.S_slice HO393.out
     (first | subst eo97 | (injection eo97 with f1_ f2_ f3_; have f4_ := f1_.symm; have f5_ := f3_.symm; clear f1_ f2_ f3_; subst f4_; subst f5_))
     refine hK.out _ _ ⟨ce0 BK377, ce1 BK377, ce0 BK387, ce1 BK387, ce2 BK387, ce3 BK387, ce4 BK387⟩ (fun hHeld => ?_)
     clear hK K
     refine norm_ (a' := ?_) ?_ ?_
     rotate_left
     · show Act.put _ (some 24) _ = _
       simp only [Act.put, List.setIfInBounds_toArray, List.set_cons_zero, List.set_cons_succ, i64_w, i32_w]
       rfl
     refine oz 3 10 143 rfl rfl (fun K hK => ?_)
     refine gs Try.func81 #[.agg #[.slice Ao96 t388.length co96, .slice Ao97 t391.length co97], .agg #[.int .i64 t381, .string t382, .string t383, .int .i64 t384, .string t385]] rfl rfl ?_
     with_reducible refine (spec_l12Do.callsB k1 (fun k_ => some k_ = (.slice Ao96 t388.length co96 : Value).ownBlock) (.slice Ao96 t388.length co96) t388 (fun k_ => some k_ = (.slice Ao97 t391.length co97 : Value).ownBlock) (.slice Ao97 t391.length co97) t391 t381 t382 t383 t384 t385 t394 t397 t400 w0 _ w.heap.size ?side1 HL.out ?sbw ?side2 ?side3 A17.out).mono ?_
     (case side1 => exact zb HB)
     (case side2 => exact Kd.R_tight rfl HO390.out)
     (case side3 => exact Kd.S_mono (HO393.out) (fun _ _ => trivial))
     (case sbw => exact keep_size (w := w) (g := g) (row := none) (zh HK))
     rintro e w98 ⟨v395, v398, rfl, ho0, ho1, hb, hkp⟩
     refine ⟨_, rfl, ?_⟩
     replace HO_7 := am (Kd.R_mono (ok' := fun k_ => k_ ≠ gb387) (Kd.R_keptB ((Kd.R_apart' (Kd.R_apart' HO_7.out (Kd.R_typed HO390.out) (by decide)) (Kd.S_typed HO393.out) (by decide))) hkp (fun k_ hk_ hs_ => Or.elim hs_ (fun e_ => (hk_.1.2) e_) (fun e_ => (hk_.2) e_))) (fun k_ hk_ => hk_.1.1.1))
     replace HO_378000 := am (Kd.R_mono (ok' := fun k_ => True) (Kd.R_keptB ((Kd.R_apart' HO_378000.out (Kd.S_typed HO393.out) (by decide))) hkp (fun k_ hk_ hs_ => Or.elim hs_ (fun e_ => (hk_.1.2) e_) (fun e_ => (hk_.2) e_))) (fun k_ hk_ => trivial))
     replace HO_378001 := am (Kd.S_mono (ok' := fun k_ => True) (Kd.S_keptB ((Kd.S_apart' HO_378001.out (Kd.R_typed HO390.out) (by decide))) hkp (fun k_ hk_ hs_ => Or.elim hs_ (fun e_ => (hk_.2) e_) (fun e_ => (hk_.1.2) e_))) (fun k_ hk_ => trivial))
     replace BK370 := am (blk_kept (zk BK370) hkp (fun hs_ => Or.elim hs_ (fun e_ => (fun e_ => (Kd.R_ne HO390.out BK370.out (by decide)) e_) e_) (fun e_ => (fun e_ => (Kd.S_ne HO393.out BK370.out (by decide)) e_) e_)))
     replace BK377 := am (blk_kept (zk BK377) hkp (fun hs_ => Or.elim hs_ (fun e_ => (fun e_ => (Kd.R_ne HO390.out BK377.out (by decide)) e_) e_) (fun e_ => (fun e_ => (Kd.S_ne HO393.out BK377.out (by decide)) e_) e_)))
     replace HI0 := am (IsS93.kept (zi HI0) hkp (fun hs_ => Or.elim hs_ (fun e_ => (fun e_ => (IsS93.own_ne HI0.out HO390.out (by decide)) e_) e_) (fun e_ => (fun e_ => (IsS93.own_neS HI0.out HO393.out (by decide)) e_) e_)))
     replace BK387 := am (blk_kept (zk BK387) hkp (fun hs_ => Or.elim hs_ (fun e_ => (fun e_ => (Kd.R_ne HO390.out BK387.out (by decide)) e_) e_) (fun e_ => (fun e_ => (Kd.S_ne HO393.out BK387.out (by decide)) e_) e_)))
     replace BK401 := am (blk_kept (zk BK401) hkp (fun hs_ => Or.elim hs_ (fun e_ => (fun e_ => (Kd.R_ne HO390.out BK401.out (by decide)) e_) e_) (fun e_ => (fun e_ => (Kd.S_ne HO393.out BK401.out (by decide)) e_) e_)))
     have HO396 := am (ho0)
     have HO399 := am (ho1)
     replace HK := am (Kept.keepG (zh HK) hkp (fun k_ hs_ => Or.elim hs_ (fun e_ => (fun e_ => .inr (Kd.R_base HO390.out k_ e_.symm)) e_) (fun e_ => (fun e_ => .inr (Kd.S_base HO393.out k_ e_.symm)) e_)))
     replace HB := am (hb)
     clear HO390 HO393
     (try clear hb)
     (try clear hkp)
     (try clear ho0)
     (try clear ho1)
     refine hK.out _ _ ⟨ce0 BK377, ce1 BK377, ce0 BK387, ce1 BK387, ce2 BK387, ce3 BK387, ce4 BK387⟩ (fun hHeld => ?_)
     clear hK K
     refine norm_ (a' := ?_) ?_ ?_
     rotate_left
     · show Act.put _ (some 26) _ = _
       simp only [Act.put, List.setIfInBounds_toArray, List.set_cons_zero, List.set_cons_succ, i64_w, i32_w]
       rfl
     refine pu 4 22 10 159 rfl rfl ?_
     refine pu 5 27 10 191 rfl rfl ?_
     refine pu 6 28 10 255 rfl rfl ?_
     exact norm_ (by simp only [putAll, Act.put, List.setIfInBounds_toArray, List.set_cons_zero, List.set_cons_succ]) (hCont (.slice Ao96 t388.length co96, .slice Ao97 t391.length co97, v395, v398, gb401) _ ⟨hHeld, (zr HO396), (zs HO399), (zr HO_378000), (zs HO_378001), (zr HO_7), (zk BK370), (zk BK377), (zk BK387), (zk BK401), GW401.out, GE401.out, NB0_401.out, NB401_0.out, NB370_401.out, NB401_370.out, NB377_401.out, NB401_377.out, NB387_401.out, NB401_387.out, (zi HI0), (zh HK), (zb HB)⟩)
   rintro ⟨v389, v392, v395, v398, gb401⟩ w99 ⟨hS_, h0_, h1_, h2_, h3_, h4_, h5_, h6_, h7_, h8_, h9_, h10_, h11_, h12_, h13_, h14_, h15_, h16_, h17_, h18_, h19_, h20_, h21_⟩
   have HO396 : Aside0 (Kd.R k55 55 w99 w.heap.size (fun _ => True) v395 t394) := ⟨h0_⟩
   have HO399 : Aside0 (Kd.S k38 38 w99 w.heap.size (fun _ => True) v398 t397) := ⟨h1_⟩
   replace HO_378000 : Aside0 (Kd.R k55 55 w99 w.heap.size (fun _ => True) (.slice Ao84 x378000_1.length co84) x378000_1) := ⟨h2_⟩
   replace HO_378001 : Aside0 (Kd.S k38 38 w99 w.heap.size (fun _ => True) (.slice Ao85 x378001_1.length co85) x378001_1) := ⟨h3_⟩
   replace HO_7 : Aside0 (Kd.R k103 103 w99 w.heap.size (fun k_ => k_ ≠ gb387) u7 x7_1) := ⟨h4_⟩
   replace BK370 : Aside0 (w99.heap[gb370]? = some (.cells #[.slice none 0 0, .slice none 0 0] 31 (0, 0))) := ⟨h5_⟩
   replace BK377 : Aside0 (w99.heap[gb377]? = some (.cells #[.slice Ao84 x378000_1.length co84, .slice Ao85 x378001_1.length co85] 31 (0, 0))) := ⟨h6_⟩
   replace BK387 : Aside0 (w99.heap[gb387]? = some (.cells #[.int .i64 t381, .string t382, .string t383, .int .i64 t384, .string t385] 103 (0, 0))) := ⟨h7_⟩
   have BK401 : Aside0 (w99.heap[gb401]? = some (.cells #[.slice none 0 0, .slice none 0 0] 31 (0, 0))) := ⟨h8_⟩
   have GW401 : Aside0 (w.heap.size ≤ gb401) := ⟨h9_⟩
   have GE401 : Aside0 (w0.heap.size ≤ gb401) := ⟨h10_⟩
   have NB0_401 : Aside0 (g ≠ gb401) := ⟨h11_⟩
   have NB401_0 : Aside0 (gb401 ≠ g) := ⟨h12_⟩
   have NB370_401 : Aside0 (gb370 ≠ gb401) := ⟨h13_⟩
   have NB401_370 : Aside0 (gb401 ≠ gb370) := ⟨h14_⟩
   have NB377_401 : Aside0 (gb377 ≠ gb401) := ⟨h15_⟩
   have NB401_377 : Aside0 (gb401 ≠ gb377) := ⟨h16_⟩
   have NB387_401 : Aside0 (gb387 ≠ gb401) := ⟨h17_⟩
   have NB401_387 : Aside0 (gb401 ≠ gb387) := ⟨h18_⟩
   replace HI0 : Aside0 (IsS93 w0 w99 g s0_0 t386) := ⟨h19_⟩
   replace HK : Aside0 (KeepBut w w99 g none) := ⟨h20_⟩
   replace HB : Aside0 (Below w0.heap.size w0 w99) := ⟨h21_⟩
   clear h0_ h1_ h2_ h3_ h4_ h5_ h6_ h7_ h8_ h9_ h10_ h11_ h12_ h13_ h14_ h15_ h16_ h17_ h18_ h19_ h20_ h21_
   have hHeld : w99.cell? ⟨gb377, 0, none⟩ = some (.slice Ao84 x378000_1.length co84) ∧ w99.cell? ⟨gb377, 1, none⟩ = some (.slice Ao85 x378001_1.length co85) ∧ w99.cell? ⟨gb387, 0, none⟩ = some (.int .i64 t381) ∧ w99.cell? ⟨gb387, 1, none⟩ = some (.string t382) ∧ w99.cell? ⟨gb387, 2, none⟩ = some (.string t383) ∧ w99.cell? ⟨gb387, 3, none⟩ = some (.int .i64 t384) ∧ w99.cell? ⟨gb387, 4, none⟩ = some (.string t385) := hS_
   obtain ⟨Ao100, co100, eo100⟩ := Kd.R_slice HO396.out
   (first | subst eo100 | (injection eo100 with f1_ f2_ f3_; have f4_ := f1_.symm; have f5_ := f3_.symm; clear f1_ f2_ f3_; subst f4_; subst f5_))
   obtain ⟨Ao102, co102, eo102⟩ := Kd.S_slice HO399.out
   (first | subst eo102 | (injection eo102 with f1_ f2_ f3_; have f4_ := f1_.symm; have f5_ := f3_.symm; clear f1_ f2_ f3_; subst f4_; subst f5_))
   refine norm_ (a' := ?_) ?_ ?_
   rotate_left
   · simp only [putAll, Act.put, List.setIfInBounds_toArray, List.set_cons_zero, List.set_cons_succ]
     rfl
   refine oz 8 10 511 rfl rfl (fun K hK => ?_)
   have hs101 := ce0 BK401
   have hfs101 := bfz BK401 0
   have hns101_0 := NB370_401.out
   have hns101_1 := NB377_401.out
   have hns101_2 := NB387_401.out
   have hms101_0 := NB401_370.out
   have hms101_1 := NB401_377.out
   have hms101_2 := NB401_387.out
   have hs103 := ce1 BK401
   have hfs103 := bfz BK401 1
   have hns103_0 := NB370_401.out
   have hns103_1 := NB377_401.out
   have hns103_2 := NB387_401.out
   have hms103_0 := NB401_370.out
   have hms103_1 := NB401_377.out
   have hms103_2 := NB401_387.out
   refine skip_ (w1 := ?_) (by rfl) rfl ?_ ?_
   rotate_left
   · go_simp
     rfl
   refine hK.out _ _ ⟨((cell_far (p := ⟨gb401, _, none⟩) NB377_401.out _).trans (((cell_far (p := ⟨gb401, _, none⟩) NB377_401.out _).trans (hHeld.1)))), ((cell_far (p := ⟨gb401, _, none⟩) NB377_401.out _).trans (((cell_far (p := ⟨gb401, _, none⟩) NB377_401.out _).trans (hHeld.2.1)))), ((cell_far (p := ⟨gb401, _, none⟩) NB387_401.out _).trans (((cell_far (p := ⟨gb401, _, none⟩) NB387_401.out _).trans (hHeld.2.2.1)))), ((cell_far (p := ⟨gb401, _, none⟩) NB387_401.out _).trans (((cell_far (p := ⟨gb401, _, none⟩) NB387_401.out _).trans (hHeld.2.2.2.1)))), ((cell_far (p := ⟨gb401, _, none⟩) NB387_401.out _).trans (((cell_far (p := ⟨gb401, _, none⟩) NB387_401.out _).trans (hHeld.2.2.2.2.1)))), ((cell_far (p := ⟨gb401, _, none⟩) NB387_401.out _).trans (((cell_far (p := ⟨gb401, _, none⟩) NB387_401.out _).trans (hHeld.2.2.2.2.2.1)))), ((cell_far (p := ⟨gb401, _, none⟩) NB387_401.out _).trans (((cell_far (p := ⟨gb401, _, none⟩) NB387_401.out _).trans (hHeld.2.2.2.2.2.2))))⟩ (fun hHeld => ?_)
   clear hK K
   refine pu 9 11 10 1023 rfl rfl ?_
   refine done_ (done_of HT_.out (by kernel_rfl)) ?_
   have hnb104 := NB387_401.out
   have hnc104 := NB401_387.out
   have hcz105_0 := ce0 BK387
   have hcz105_1 := ce1 BK387
   have hcz105_2 := ce2 BK387
   have hcz105_3 := ce3 BK387
   have hcz105_4 := ce4 BK387
   have hfz105_0 := bfz BK387 0
   have hfz105_1 := bfz BK387 1
   have hfz105_2 := bfz BK387 2
   have hfz105_3 := bfz BK387 3
   have hfz105_4 := bfz BK387 4
   have H := HH_.out
   clear HH_
   by_cases c19 : t402 = true
   rotate_left
   · replace c19 := Bool.eq_false_iff.mpr c19
     subst c19
     have H1 : (spec_l71Ops.l0 k1 a1 x7_1 (wrap64 (x8_1 + 1)) s0_0 t386 x378000_1 x378001_1) = some (r1, r2, r3, r4) := by rw [if_neg (show ¬ (false = true) by decide)] at H; exact H
     clear H
     have H := H1
     clear H1
     have H' := am H
     clear H
     try go_wp2_with (first | ((with_reducible refine gate_callee (f := 83) rfl ?_); refine gl Try.func83 30 #[.agg #[.int .i64 t381, .string t382, .string t383, .int .i64 t384, .string t385]] rfl rfl rfl ?_; (with_reducible refine (spec_OpOk.calls k1 t381 t382 t383 t384 t385 false _ A18.out).mono ?_); rintro e w106 ⟨rfl, hb⟩; refine ⟨_, rfl, ?_⟩; replace HO_7 := am (Kd.R_below (rf HO_7 BK401) hb); replace HO_378000 := am (Kd.R_below (rf HO_378000 BK401) hb); replace HO_378001 := am (Kd.S_below (sf HO_378001 BK401) hb); replace HO396 := am (Kd.R_below (rf HO396 BK401) hb); replace HO399 := am (Kd.S_below (sf HO399 BK401) hb); replace BK370 := am (blk_below (zk BK370) hb); replace BK377 := am (blk_below (zk BK377) hb); replace HI0 := am (IsS93.below (zi HI0) hb); replace BK387 := am (blk_below (zk BK387) hb); replace BK401 := am (blk_below (g := gb401) (o := .cells #[.slice Ao100 t394.length co100, .slice Ao102 t397.length co102] 31 (0, 0)) (zp BK401) hb); replace HK := am (KeepBut.trans (zh HK) (KeepBut.of_below hb g none) (.inl rfl)); replace HB := am (below_step (zb HB) hb); (try clear hb); (try clear hb2); (try clear hk); (try clear hi)))
     go_roundg k1
     case measure => have := HK1.out; omega
     case rel => exact ⟨(x7_1), (wrap64 (x8_1 + 1)), (t386), (x378000_1), (x378001_1), (.slice Ao84 x378000_1.length co84), (.slice Ao85 x378001_1.length co85), ze, H', ⟨by have := HK1.out; omega⟩, ⟨by (with_reducible repeat (first | apply Kd.R_alloc | apply Kd.R_drewN | apply Kd.R_drew)); exact Kd.R_mono HO_7.out (fun _ hk => trivial)⟩, ⟨zr HO_378000⟩, ⟨zs HO_378001⟩, ⟨zk BK370⟩, ⟨zk BK377⟩, ⟨zi HI0⟩, ⟨zh HK⟩, ⟨zb HB⟩⟩
   subst c19
   have H1 : (if t400 = true then (if x7_1.length < 2199023255552 then (spec_l71Ops.l0 k1 a1 (x7_1 ++ [(⟨t381, t382, t383, t384, t385⟩ : S103)]) (wrap64 (x8_1 + 1)) s0_0 t386 t394 t397) else (none)) else (spec_l71Ops.l0 k1 a1 x7_1 (wrap64 (x8_1 + 1)) s0_0 t386 x378000_1 x378001_1)) = some (r1, r2, r3, r4) := by rw [if_pos rfl] at H; exact H
   clear H
   have H := H1
   clear H1
   by_cases c20 : t400 = true
   rotate_left
   · replace c20 := Bool.eq_false_iff.mpr c20
     subst c20
     have H1 : (spec_l71Ops.l0 k1 a1 x7_1 (wrap64 (x8_1 + 1)) s0_0 t386 x378000_1 x378001_1) = some (r1, r2, r3, r4) := by rw [if_neg (show ¬ (false = true) by decide)] at H; exact H
     clear H
     have H := H1
     clear H1
     have H' := am H
     clear H
     try go_wp2_with (first | ((with_reducible refine gate_callee (f := 83) rfl ?_); refine gl Try.func83 30 #[.agg #[.int .i64 t381, .string t382, .string t383, .int .i64 t384, .string t385]] rfl rfl rfl ?_; (with_reducible refine (spec_OpOk.calls k1 t381 t382 t383 t384 t385 true _ A18.out).mono ?_); rintro e w80 ⟨rfl, hb⟩; refine ⟨_, rfl, ?_⟩; replace HO_7 := am (Kd.R_below (rf HO_7 BK401) hb); replace HO_378000 := am (Kd.R_below (rf HO_378000 BK401) hb); replace HO_378001 := am (Kd.S_below (sf HO_378001 BK401) hb); replace HO396 := am (Kd.R_below (rf HO396 BK401) hb); replace HO399 := am (Kd.S_below (sf HO399 BK401) hb); replace BK370 := am (blk_below (zk BK370) hb); replace BK377 := am (blk_below (zk BK377) hb); replace HI0 := am (IsS93.below (zi HI0) hb); replace BK387 := am (blk_below (zk BK387) hb); replace BK401 := am (blk_below (g := gb401) (o := .cells #[.slice Ao100 t394.length co100, .slice Ao102 t397.length co102] 31 (0, 0)) (zp BK401) hb); replace HK := am (KeepBut.trans (zh HK) (KeepBut.of_below hb g none) (.inl rfl)); replace HB := am (below_step (zb HB) hb); (try clear hb); (try clear hb2); (try clear hk); (try clear hi)))
     go_roundg k1
     case measure => have := HK1.out; omega
     case rel => exact ⟨(x7_1), (wrap64 (x8_1 + 1)), (t386), (x378000_1), (x378001_1), (.slice Ao84 x378000_1.length co84), (.slice Ao85 x378001_1.length co85), ze, H', ⟨by have := HK1.out; omega⟩, ⟨by (with_reducible repeat (first | apply Kd.R_alloc | apply Kd.R_drewN | apply Kd.R_drew)); exact Kd.R_mono HO_7.out (fun _ hk => trivial)⟩, ⟨zr HO_378000⟩, ⟨zs HO_378001⟩, ⟨zk BK370⟩, ⟨zk BK377⟩, ⟨zi HI0⟩, ⟨zh HK⟩, ⟨zb HB⟩⟩
   subst c20
   have H1 : (if x7_1.length < 2199023255552 then (spec_l71Ops.l0 k1 a1 (x7_1 ++ [(⟨t381, t382, t383, t384, t385⟩ : S103)]) (wrap64 (x8_1 + 1)) s0_0 t386 t394 t397) else (none)) = some (r1, r2, r3, r4) := by rw [if_pos rfl] at H; exact H
   clear H
   have H := H1
   clear H1
   by_cases c21 : x7_1.length < 2199023255552
   rotate_left
   · rw [if_neg c21] at H
     exact absurd H (by simp)
   rw [if_pos c21] at H
   have LMc21 := am c21
   clear c21
   obtain ⟨y403, hy403⟩ : ∃ y_ : List (S103), y_ = (x7_1 ++ [(⟨t381, t382, t383, t384, t385⟩ : S103)]) := ⟨_, rfl⟩
   replace H : (spec_l71Ops.l0 k1 a1 y403 (wrap64 (x8_1 + 1)) s0_0 t386 t394 t397) = some (r1, r2, r3, r4) := hY hy403 H
   have Ny403 := am hy403
   clear hy403
   have H' := am H
   clear H
   try go_wp2_with (first | ((with_reducible refine gate_callee (f := 83) rfl ?_); refine gl Try.func83 30 #[.agg #[.int .i64 t381, .string t382, .string t383, .int .i64 t384, .string t385]] rfl rfl rfl ?_; (with_reducible refine (spec_OpOk.calls k1 t381 t382 t383 t384 t385 true _ A18.out).mono ?_); rintro e w47 ⟨rfl, hb⟩; refine ⟨_, rfl, ?_⟩; replace HO_7 := am (Kd.R_below (rf HO_7 BK401) hb); replace HO_378000 := am (Kd.R_below (rf HO_378000 BK401) hb); replace HO_378001 := am (Kd.S_below (sf HO_378001 BK401) hb); replace HO396 := am (Kd.R_below (rf HO396 BK401) hb); replace HO399 := am (Kd.S_below (sf HO399 BK401) hb); replace BK370 := am (blk_below (zk BK370) hb); replace BK377 := am (blk_below (zk BK377) hb); replace HI0 := am (IsS93.below (zi HI0) hb); replace BK387 := am (blk_below (zk BK387) hb); replace BK401 := am (blk_below (g := gb401) (o := .cells #[.slice Ao100 t394.length co100, .slice Ao102 t397.length co102] 31 (0, 0)) (zp BK401) hb); replace HK := am (KeepBut.trans (zh HK) (KeepBut.of_below hb g none) (.inl rfl)); replace HB := am (below_step (zb HB) hb); (try clear hb); (try clear hb2); (try clear hk); (try clear hi); have hnb48 := NB401_370.out; have hnc48 := NB370_401.out; have hnb49 := NB401_377.out; have hnc49 := NB377_401.out; have hnb50 := NB401_0.out; have hnc50 := NB0_401.out; have hcz51_0 := ce0 BK401; have hcz51_1 := ce1 BK401; have hfz51_0 := bfz BK401 0; have hfz51_1 := bfz BK401 1; have hcz52_0 := ce0 BK377; have hcz52_1 := ce1 BK377; have hfz52_0 := bfz BK377 0; have hfz52_1 := bfz BK377 1; have hcz53_0 := ce0 BK387; have hcz53_1 := ce1 BK387; have hcz53_2 := ce2 BK387; have hcz53_3 := ce3 BK387; have hcz53_4 := ce4 BK387; have hfz53_0 := bfz BK387 0; have hfz53_1 := bfz BK387 1; have hfz53_2 := bfz BK387 2; have hfz53_3 := bfz BK387 3; have hfz53_4 := bfz BK387 4) | ((with_reducible refine gate_builtin (b := .append) (xs := #[.tmp 35, .tmp 37]) rfl ?_); at_builtin; refine Kd.R_append k103 w.heap.size rfl (.tmp 35) (.tmp 37) 94 103 (.agg #[(.int .i64 0), (.string ⟨#[]⟩), (.string ⟨#[]⟩), (.int .i64 0), (.string ⟨#[]⟩)]) 64 rfl Try.underlying94 info103 rfl (by decide) (by omega) u7 x7_1 (⟨t381, t382, t383, t384, t385⟩ : S103) [.int .i64 t381, .string t382, .string t383, .int .i64 t384, .string t385] (fun k_ => k_ ≠ gb387) (fun _ => False) rfl (by first | (go_simp; done) | (go_simp; rfl)) ?aP (fun _ hk => hk.elim) ?aF ?aO (Below.refl _ _) ?aS ?aL ?_; (case aP => exact k103_mkM _ _ _ (⟨t381, t382, t383, t384, t385⟩ : S103)); (case aF => exact (fun k_ hk => Kd.freshB (g := gb387) (o := .cells #[.int .i64 t381, .string t382, .string t383, .int .i64 t384, .string t385] 103 (0, 0)) (zk BK387) k_ hk)); (case aO => exact (rf HO_7 BK377)); (case aS => exact (keep_size (zh HK))); (case aL => have := LMc21.out; omega); intro v404 w54 ho hb hg hat; rw [← Ny403.out] at ho; replace HO_378000 := am (Kd.R_over' (rf HO_378000 BK377) (Kd.R_typed (rf HO_7 BK377)) (by decide) hg); replace HO_378001 := am (Kd.S_over' (sf HO_378001 BK377) (Kd.R_typed (rf HO_7 BK377)) (by decide) hg); replace BK370 := am (blk_grown (zk BK370) hg (Kd.R_ne HO_7.out BK370.out (by decide))); replace HI0 := am (IsS93.grown (zi HI0) hg (IsS93.own_ne HI0.out HO_7.out (by decide))); replace BK387 := am (blk_grown (zk BK387) hg (Kd.R_away HO_7.out (fun _ hk => hk))); replace HO396 := am (Kd.R_over' (rf HO396 BK377) (Kd.R_typed (rf HO_7 BK377)) (by decide) hg); replace HO399 := am (Kd.S_over' (sf HO399 BK377) (Kd.R_typed (rf HO_7 BK377)) (by decide) hg); replace BK377 := am (blk_grown (g := gb377) (o := .cells #[.slice Ao100 t394.length co100, .slice Ao102 t397.length co102] 31 (0, 0)) (zp BK377) hg (Kd.R_ne HO_7.out BK377.out (by decide))); replace BK401 := am (blk_grown (zk BK401) hg (Kd.R_ne HO_7.out BK401.out (by decide))); replace HB := am (below_weaken (zb HB) HL.out hb); replace HK := am (KeepBut.trans (zh HK) (KeepBut.of_grown hg g) (Kd.R_base2 HO_7.out)); have HO405 := am (ho); clear HO_7; clear ho hb hg hat))
   go_roundg k1
   case measure => have := HK1.out; omega
   case rel => exact ⟨(y403), (wrap64 (x8_1 + 1)), (t386), (t394), (t397), (.slice Ao100 t394.length co100), (.slice Ao102 t397.length co102), ze, H', ⟨by have := HK1.out; omega⟩, ⟨by (with_reducible repeat (first | apply Kd.R_alloc | apply Kd.R_drewN | apply Kd.R_drew)); exact Kd.R_mono HO405.out (fun _ hk => trivial)⟩, ⟨zr HO396⟩, ⟨zs HO399⟩, ⟨zk BK370⟩, ⟨zk BK377⟩, ⟨zi HI0⟩, ⟨zh HK⟩, ⟨zb HB⟩⟩
end Go.Proofs.Ytooamacekmjpaaa.PFnVolForm
