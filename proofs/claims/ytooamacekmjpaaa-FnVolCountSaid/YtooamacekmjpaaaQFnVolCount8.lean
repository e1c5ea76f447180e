/- The walk: each function that the law comes to as a plain Lean function, and a proof that the Go code answers so. Written by this session's program over the kit's printer. -/
import Derived.Test.YtooamacekmjpaaaZ
import Derived.Test.YtooamacekmjpaaaQFnVolCount0
import Derived.Test.YtooamacekmjpaaaQFnVolCount1
import Derived.Test.YtooamacekmjpaaaQFnVolCount2
import Derived.Test.YtooamacekmjpaaaQFnVolCount6
import Derived.Test.YtooamacekmjpaaaQFnVolCount7
namespace Go.Proofs.Ytooamacekmjpaaa.PFnVolCount
open Go.RowKit Go.Proofs.YtooamacekmjpaaaW.PrintWords Go.Proofs.YtooamacekmjpaaaW.PrintLast Go.Proofs.YtooamacekmjpaaaW.PrintMore
attribute [local go_sem] max2_int min2_int max_two min_two max_three min_three max_four min_four   -- for this text's walks alone
set_option linter.unusedVariables false
set_option linter.unusedSimpArgs false
/-! ### spec_l71Fits: function 80 -/
mutual
def spec_l71Fits.l0 : Nat → Int → List Int → Int → List (S55) → List (S38) → Int → ByteArray → ByteArray → Int → ByteArray → Option (Int × ByteArray × ByteArray × Int × ByteArray × Int)
 | 0, _, _, _, _, _, _, _, _, _, _ => none
 | k + 1, x6, x1000, x1001, x341000, x341001, x349000, x349001, x349002, x349003, x349004 => if x6 < 8 then ((spec_OpOk.f k x349000 x349001 x349002 x349003 x349004).bind fun t349 => (if t349 = true then ((spec_l11Copy.f k x341000 x341001).bind fun bt350 => ((spec_l12Do.f k bt350.1 bt350.2 x349000 x349001 x349002 x349003 x349004).bind fun bt356 => (if bt356.2.2 = true then (some (x349000, x349001, x349002, x349003, x349004, x1001)) else (spec_l71Fits.j1 k x6 x1000 x1001 x341000 x341001)))) else (spec_l71Fits.j1 k x6 x1000 x1001 x341000 x341001))) else (some (x349000, x349001, x349002, x349003, x349004, x1001))
def spec_l71Fits.j1 : Nat → Int → List Int → Int → List (S55) → List (S38) → Option (Int × ByteArray × ByteArray × Int × ByteArray × Int)
 | 0, _, _, _, _, _ => none
 | k + 1, x6, x1000, x1001, x341000, x341001 => (spec_l71Op.f k x1000 x1001).bind fun bt364 => (if (x341001.length : Int) > 0 then ((spec_l6Rd_pick.f k x1000 bt364.2.2.2.2.2 3).bind fun bt370 => (if bt370.1 > 0 then ((spec_l6Rd_pick.f k x1000 bt370.2 (x341001.length : Int)).bind fun bt372 => (if 0 ≤ bt372.1 then (if bt372.1 < (x341001.length : Int) then (spec_l71Fits.l0 k (wrap64 (x6 + 1)) x1000 bt372.2 x341000 x341001 bt364.1 ((rd_T38 x341001 bt372.1).f0) bt364.2.2.1 bt364.2.2.2.1 bt364.2.2.2.2.1) else (none)) else (none))) else (spec_l71Fits.l0 k (wrap64 (x6 + 1)) x1000 bt370.2 x341000 x341001 bt364.1 bt364.2.1 bt364.2.2.1 bt364.2.2.2.1 bt364.2.2.2.2.1))) else (spec_l71Fits.l0 k (wrap64 (x6 + 1)) x1000 bt364.2.2.2.2.2 x341000 x341001 bt364.1 bt364.2.1 bt364.2.2.1 bt364.2.2.2.1 bt364.2.2.2.2.1))
end
def spec_l71Fits.f (k : Nat) (s0_0 : List Int) (s0_1 : Int) (l1_0 : List (S55)) (l1_1 : List (S38)) : Option (Int × ByteArray × ByteArray × Int × ByteArray × Int) := (spec_l71Op.f k s0_0 s0_1).bind fun bt342 => (spec_l71Fits.l0 k 0 s0_0 bt342.2.2.2.2.2 l1_0 l1_1 bt342.1 bt342.2.1 bt342.2.2.1 bt342.2.2.2.1 bt342.2.2.2.2.1)
theorem spec_l71Fits.mono_l : ∀ k, (∀ y0 y1 y2 y3 y4 y5 y6 y7 y8 y9, LeO (spec_l71Fits.l0 k y0 y1 y2 y3 y4 y5 y6 y7 y8 y9) (spec_l71Fits.l0 (k + 1) y0 y1 y2 y3 y4 y5 y6 y7 y8 y9)) ∧ (∀ y0 y1 y2 y3 y4, LeO (spec_l71Fits.j1 k y0 y1 y2 y3 y4) (spec_l71Fits.j1 (k + 1) y0 y1 y2 y3 y4))
 | 0 => ⟨fun _ _ _ _ _ _ _ _ _ _ r h => by simp [spec_l71Fits.l0] at h, fun _ _ _ _ _ r h => by simp [spec_l71Fits.j1] at h⟩
 | k + 1 => by
  obtain ⟨ih0, ih1⟩ := spec_l71Fits.mono_l k
  refine ⟨?_, ?_⟩
  · intro y0 y1 y2 y3 y4 y5 y6 y7 y8 y9
    unfold spec_l71Fits.l0
    repeat' first
    | (with_reducible exact ih0 _ _ _ _ _ _ _ _ _ _)
    | (with_reducible exact ih1 _ _ _ _ _)
    | (with_reducible exact spec_OpOk.mono _ _ _ _ _ _)
    | (with_reducible exact spec_l11Copy.mono _ _ _)
    | (with_reducible exact spec_l12Do.mono _ _ _ _ _ _ _ _)
    | (with_reducible exact spec_l6Rd_pick.mono _ _ _ _)
    | (with_reducible exact spec_l71Op.mono _ _ _)
    | (with_reducible exact LeO.refl _)
    | (with_reducible exact LeO.none _)
    | (with_reducible refine LeO.ite ?_ ?_)
    | (with_reducible refine LeO.bind ?_ (fun _ => ?_))
    | exact ih0 _ _ _ _ _ _ _ _ _ _
    | exact ih1 _ _ _ _ _
    | exact spec_OpOk.mono _ _ _ _ _ _
    | exact spec_l11Copy.mono _ _ _
    | exact spec_l12Do.mono _ _ _ _ _ _ _ _
    | exact spec_l6Rd_pick.mono _ _ _ _
    | exact spec_l71Op.mono _ _ _
    | exact LeO.none _
    | refine LeO.ite ?_ ?_
    | refine LeO.bind ?_ (fun _ => ?_)
  intro y0 y1 y2 y3 y4
  unfold spec_l71Fits.j1
  repeat' first
  | (with_reducible exact ih0 _ _ _ _ _ _ _ _ _ _)
  | (with_reducible exact ih1 _ _ _ _ _)
  | (with_reducible exact spec_OpOk.mono _ _ _ _ _ _)
  | (with_reducible exact spec_l11Copy.mono _ _ _)
  | (with_reducible exact spec_l12Do.mono _ _ _ _ _ _ _ _)
  | (with_reducible exact spec_l6Rd_pick.mono _ _ _ _)
  | (with_reducible exact spec_l71Op.mono _ _ _)
  | (with_reducible exact LeO.refl _)
  | (with_reducible exact LeO.none _)
  | (with_reducible refine LeO.ite ?_ ?_)
  | (with_reducible refine LeO.bind ?_ (fun _ => ?_))
  | exact ih0 _ _ _ _ _ _ _ _ _ _
  | exact ih1 _ _ _ _ _
  | exact spec_OpOk.mono _ _ _ _ _ _
  | exact spec_l11Copy.mono _ _ _
  | exact spec_l12Do.mono _ _ _ _ _ _ _ _
  | exact spec_l6Rd_pick.mono _ _ _ _
  | exact spec_l71Op.mono _ _ _
  | exact LeO.none _
  | refine LeO.ite ?_ ?_
  | refine LeO.bind ?_ (fun _ => ?_)
theorem spec_l71Fits.mono : ∀ a0 a1 a2 a3 k, LeO (spec_l71Fits.f k a0 a1 a2 a3) (spec_l71Fits.f (k + 1) a0 a1 a2 a3) := by
 intro a0 a1 a2 a3 k
 obtain ⟨ih0, ih1⟩ := spec_l71Fits.mono_l k
 unfold spec_l71Fits.f
 repeat' first
  | (with_reducible exact ih0 _ _ _ _ _ _ _ _ _ _)
  | (with_reducible exact ih1 _ _ _ _ _)
  | (with_reducible exact spec_OpOk.mono _ _ _ _ _ _)
  | (with_reducible exact spec_l11Copy.mono _ _ _)
  | (with_reducible exact spec_l12Do.mono _ _ _ _ _ _ _ _)
  | (with_reducible exact spec_l6Rd_pick.mono _ _ _ _)
  | (with_reducible exact spec_l71Op.mono _ _ _)
  | (with_reducible exact LeO.refl _)
  | (with_reducible exact LeO.none _)
  | (with_reducible refine LeO.ite ?_ ?_)
  | (with_reducible refine LeO.bind ?_ (fun _ => ?_))
  | exact ih0 _ _ _ _ _ _ _ _ _ _
  | exact ih1 _ _ _ _ _
  | exact spec_OpOk.mono _ _ _ _ _ _
  | exact spec_l11Copy.mono _ _ _
  | exact spec_l12Do.mono _ _ _ _ _ _ _ _
  | exact spec_l6Rd_pick.mono _ _ _ _
  | exact spec_l71Op.mono _ _ _
  | exact LeO.none _
  | refine LeO.ite ?_ ?_
  | refine LeO.bind ?_ (fun _ => ?_)
def spec_l71Fits.T6 : Bool × List (List Nat × List Nat) := (true, [([], []), ([0], [0]), ([], []), ([1, 2, 1], [1, 2]), ([3], [3]), ([4], [4]), ([4], [4]), ([], []), ([7, 5, 3, 0, 1, 2, 3, 4, 5, 7], [5, 7]), ([6, 8, 0, 1, 2, 3, 4, 5, 6, 7, 8], [6])])
def spec_l71Fits.B6 : List Nat := [0, 1, 0, 7, 15, 31, 31, 0, 191, 511]
theorem spec_l71Fits.tab6 : rtab .any (opsOf Try.f80 6) = spec_l71Fits.T6 := by kernel_rfl
theorem spec_l71Fits.bits6 : waitsOk spec_l71Fits.T6.2 spec_l71Fits.B6 = true := by kernel_rfl
def spec_l71Fits.T11 : Bool × List (List Nat × List Nat) := (true, [([], []), ([0], [0]), ([], []), ([], []), ([3], [3]), ([4], [4]), ([2, 5], [2, 5]), ([1, 6], [1, 6]), ([7], [7]), ([8], [8]), ([0, 1, 2, 3, 4, 5, 6, 7, 8, 9], []), ([10, 9, 6, 0, 1, 2, 3, 4, 5, 6, 7, 8, 9], [9, 10])])
def spec_l71Fits.B11 : List Nat := [0, 1, 0, 0, 8, 24, 60, 127, 255, 511, 1023, 2047]
theorem spec_l71Fits.tab11 : rtab .any (opsOf Try.f80 11) = spec_l71Fits.T11 := by kernel_rfl
theorem spec_l71Fits.bits11 : waitsOk spec_l71Fits.T11.2 spec_l71Fits.B11 = true := by kernel_rfl
set_option maxHeartbeats 8000000 in
set_option maxRecDepth 100000 in
theorem spec_l71Fits.calls (k : Nat) (g : Nat) (s0_0 : List Int) (s0_1 : Int) (A1_0 : Option Addr) (c1_0 : Nat) (l1_0 : List (S55)) (A1_1 : Option Addr) (c1_1 : Nat) (l1_1 : List (S38)) (r1 : Int) (r2 : ByteArray) (r3 : ByteArray) (r4 : Int) (r5 : ByteArray) (r6 : Int) (w0 w : World) (hI : IsS93 w0 w g s0_0 s0_1) (hB : Below w0.heap.size w0 w) (hr1_0 : ∀ W_, KeepBut w W_ g none → Kd.C k55 W_ A1_0 l1_0.length l1_0) (hc1_0 : l1_0.length ≤ c1_0) (hr1_1 : ∀ W_, KeepBut w W_ g none → Kd.C k38 W_ A1_1 l1_1.length l1_1) (hc1_1 : l1_1.length ≤ c1_1) (h : spec_l71Fits.f k s0_0 s0_1 l1_0 l1_1 = some (r1, r2, r3, r4, r5, r6)) :
 Calls Try.prog 80 #[.pointer (some ⟨g, 0, none⟩), .agg #[.slice A1_0 l1_0.length c1_0, .slice A1_1 l1_1.length c1_1]] w fun e w' => e = .returned (.agg #[.int .i64 r1, .string r2, .string r3, .int .i64 r4, .string r5]) ∧ IsS93 w0 w' g s0_0 r6 ∧ Below w0.heap.size w0 w' ∧ KeepBut w w' g none := by
 have hu31 := Try.underlying31
 have hu103 := Try.underlying103
 have HR1_0 := am hr1_0
 have HC1_0 := am hc1_0
 clear hr1_0 hc1_0
 have HR1_1 := am hr1_1
 have HC1_1 := am hc1_1
 clear hr1_1 hc1_1
 have HI0 := am hI
 have HK := am (KeepBut.refl w g none)
 have HL := am hB.size
 clear hI
 have HW0 := am hB.size
 have HB := am hB
 clear hB
 have H : ((spec_l71Op.f k s0_0 s0_1).bind fun bt342 => (spec_l71Fits.l0 k 0 s0_0 bt342.2.2.2.2.2 l1_0 l1_1 bt342.1 bt342.2.1 bt342.2.2.1 bt342.2.2.2.1 bt342.2.2.2.2.1)) = some (r1, r2, r3, r4, r5, r6) := h
 clear h
 replace H := obs H
 obtain ⟨⟨t342, t343, t344, t345, t346, t347⟩, A30, H⟩ := H
 replace H : (spec_l71Fits.l0 k 0 s0_0 t347 l1_0 l1_1 t342 t343 t344 t345 t346) = some (r1, r2, r3, r4, r5, r6) := H
 have A3 := am A30
 clear A30
 have H' := am H
 clear H
 go_enter Try.func80, Try.ntmps80
 go_wp2_with (first | ((with_reducible refine gate_dst (N := 3) rfl ?_); refine bx 31 #[.slice A1_0 l1_0.length c1_0, .slice A1_1 l1_1.length c1_1] ?_; intro gb340 hg w4 hbox hb; replace HB := am (below_step (zb HB) hb); have BK340 := am (hbox); have GW340 := am (zm hg (zh HK)); have GE340 := am ((Nat.le_trans HW0.out (zm hg (zh HK)))); replace HK := am (KeepBut.trans (zh HK) (KeepBut.of_below hb g none) (.inl rfl)); have NB0_340 := am (ix hg (zi HI0)); have NB340_0 := am (iy hg (zi HI0)); replace HI0 := am (IsS93.below (zi HI0) hb); clear hb hbox hg) | ((with_reducible refine gate_dst (N := 4) rfl ?_); refine bx 103 #[.int .i64 0, .string (⟨#[]⟩ : ByteArray), .string (⟨#[]⟩ : ByteArray), .int .i64 0, .string (⟨#[]⟩ : ByteArray)] ?_; intro gb341 hg w5 hbox hb; replace HB := am (below_step (zb HB) hb); have BK341 := am (hbox); have GW341 := am (zm hg (zh HK)); have GE341 := am ((Nat.le_trans HW0.out (zm hg (zh HK)))); replace HK := am (KeepBut.trans (zh HK) (KeepBut.of_below hb g none) (.inl rfl)); have NB340_341 := am (zx hg (zk BK340)); have NB341_340 := am (zy hg (zk BK340)); replace BK340 := am (blk_below (zk BK340) hb); have NB0_341 := am (ix hg (zi HI0)); have NB341_0 := am (iy hg (zi HI0)); replace HI0 := am (IsS93.below (zi HI0) hb); clear hb hbox hg) | ((with_reducible refine gate_callee (f := 87) rfl ?_); refine gl Try.func87 10 #[.pointer (some ⟨g, 0, none⟩)] rfl rfl rfl ?_; (with_reducible refine (spec_l71Op.calls k g s0_0 s0_1 t342 t343 t344 t345 t346 t347 w0 _ ?side1 ?side2 A3.out).mono ?_); (case side1 => exact zi HI0); (case side2 => exact zb HB); rintro e w6 ⟨rfl, hi, hb, hk⟩; refine ⟨_, rfl, ?_⟩; replace BK340 := am (KeepBut.blk hk (zk BK340) NB340_0.out (by simp)); replace BK341 := am (KeepBut.blk hk (zk BK341) NB341_0.out (by simp)); replace HK := am (KeepBut.trans (zh HK) hk (.inl rfl)); replace HB := am (hb); replace HI0 := am (hi); (try clear hb); (try clear hb2); (try clear hk); (try clear hi)) | ((with_reducible refine gate_dst (N := 5) rfl ?_); refine bx 103 #[.int .i64 0, .string (⟨#[]⟩ : ByteArray), .string (⟨#[]⟩ : ByteArray), .int .i64 0, .string (⟨#[]⟩ : ByteArray)] ?_; intro gb348 hg w7 hbox hb; replace HB := am (below_step (zb HB) hb); have BK348 := am (hbox); have GW348 := am (zm hg (zh HK)); have GE348 := am ((Nat.le_trans HW0.out (zm hg (zh HK)))); replace HK := am (KeepBut.trans (zh HK) (KeepBut.of_below hb g none) (.inl rfl)); have NB340_348 := am (zx hg (zk BK340)); have NB348_340 := am (zy hg (zk BK340)); replace BK340 := am (blk_below (zk BK340) hb); have NB341_348 := am (zx hg (zk BK341)); have NB348_341 := am (zy hg (zk BK341)); replace BK341 := am (blk_below (zk BK341) hb); have NB0_348 := am (ix hg (zi HI0)); have NB348_0 := am (iy hg (zi HI0)); replace HI0 := am (IsS93.below (zi HI0) hb); clear hb hbox hg; have hnb8 := NB348_340.out; have hnc8 := NB340_348.out; have hnb9 := NB348_341.out; have hnc9 := NB341_348.out; have hnb10 := NB348_0.out; have hnc10 := NB0_348.out; have hcz11_0 := ce0 BK348; have hcz11_1 := ce1 BK348; have hcz11_2 := ce2 BK348; have hcz11_3 := ce3 BK348; have hcz11_4 := ce4 BK348; have hfz11_0 := bfz BK348 0; have hfz11_1 := bfz BK348 1; have hfz11_2 := bfz BK348 2; have hfz11_3 := bfz BK348 3; have hfz11_4 := bfz BK348 4))
 go_loopg [6] k (fun kq v6 w' => ∃ (x6_1 : Int) (x1001_1 : Int) (x342000_1 : Int) (x342001_1 : ByteArray) (x342002_1 : ByteArray) (x342003_1 : Int) (x342004_1 : ByteArray) (x349000_1 : Int) (x349001_1 : ByteArray) (x349002_1 : ByteArray) (x349003_1 : Int) (x349004_1 : ByteArray), v6 = .int .i64 x6_1 ∧ Aside0 (spec_l71Fits.l0 kq x6_1 s0_0 x1001_1 l1_0 l1_1 x349000_1 x349001_1 x349002_1 x349003_1 x349004_1 = some (r1, r2, r3, r4, r5, r6)) ∧ Aside0 (kq ≤ k) ∧ Aside0 (w'.heap[gb340]? = some (.cells #[(.slice A1_0 l1_0.length c1_0), (.slice A1_1 l1_1.length c1_1)] 31 (0, 0))) ∧ Aside0 (w'.heap[gb341]? = some (.cells #[.int .i64 x342000_1, .string x342001_1, .string x342002_1, .int .i64 x342003_1, .string x342004_1] 103 (0, 0))) ∧ Aside0 (w'.heap[gb348]? = some (.cells #[.int .i64 x349000_1, .string x349001_1, .string x349002_1, .int .i64 x349003_1, .string x349004_1] 103 (0, 0))) ∧ Aside0 (IsS93 w0 w' g s0_0 x1001_1) ∧ Aside0 (KeepBut w w' g none) ∧ Aside0 (Below w0.heap.size w0 w'))
 case atStart => exact ⟨(0), (t347), (0), ((⟨#[]⟩ : ByteArray)), ((⟨#[]⟩ : ByteArray)), (0), ((⟨#[]⟩ : ByteArray)), (t342), (t343), (t344), (t345), (t346), ze, H', ⟨Nat.le_refl _⟩, ⟨zk BK340⟩, ⟨zk BK341⟩, ⟨zp BK348⟩, ⟨zi HI0⟩, ⟨zh HK⟩, ⟨zb HB⟩⟩
 case round =>
  clear H'
  try clear c1
  try clear p2
  try clear c8
  try clear c9
  try clear c10
  try clear hcz11_0
  try clear hcz11_1
  try clear hcz11_2
  try clear hcz11_3
  try clear hcz11_4
  try clear hfz11_0
  try clear hfz11_1
  try clear hfz11_2
  try clear hfz11_3
  try clear hfz11_4
  obtain ⟨x6_1, x1001_1, x342000_1, x342001_1, x342002_1, x342003_1, x342004_1, x349000_1, x349001_1, x349002_1, x349003_1, x349004_1, rfl, HA, HK1, BK340, BK341, BK348, HI0, HK, HB⟩ := hrel
  cases gk with
  | zero => exact absurd HA.out (by simp [spec_l71Fits.l0])
  | succ k1 =>
   have H := HA.out
   clear HA
   simp only [spec_l71Fits.l0] at H
   by_cases c12 : x6_1 < 8
   rotate_left
   · rw [if_neg c12] at H
     have c12b0 : decide (x6_1 < 8) = false := decide_eq_false c12
     clear c12
     simp only [Option.some.injEq, Prod.mk.injEq] at H
     obtain ⟨rfl, rfl, rfl, rfl, rfl, rfl⟩ := H
     have hnb91 := NB348_340.out
     have hnc91 := NB340_348.out
     have hnb92 := NB348_341.out
     have hnc92 := NB341_348.out
     have hnb93 := NB348_0.out
     have hnc93 := NB0_348.out
     have hcz94_0 := ce0 BK348
     have hcz94_1 := ce1 BK348
     have hcz94_2 := ce2 BK348
     have hcz94_3 := ce3 BK348
     have hcz94_4 := ce4 BK348
     have hfz94_0 := bfz BK348 0
     have hfz94_1 := bfz BK348 1
     have hfz94_2 := bfz BK348 2
     have hfz94_3 := bfz BK348 3
     have hfz94_4 := bfz BK348 4
     have hnb95 := NB341_340.out
     have hnc95 := NB340_341.out
     have hnb96 := NB341_0.out
     have hnc96 := NB0_341.out
     have hcz97_0 := ce0 BK341
     have hcz97_1 := ce1 BK341
     have hcz97_2 := ce2 BK341
     have hcz97_3 := ce3 BK341
     have hcz97_4 := ce4 BK341
     have hfz97_0 := bfz BK341 0
     have hfz97_1 := bfz BK341 1
     have hfz97_2 := bfz BK341 2
     have hfz97_3 := bfz BK341 3
     have hfz97_4 := bfz BK341 4
     go_wp2
     refine bodyPost_ret (results_cell_row rfl _ _ gb341 103 #[.int .i64 x349000_1, .string x349001_1, .string x349002_1, .int .i64 x349003_1, .string x349004_1] (0, 0) _ rfl (zp BK341) Try.underlying103 rfl (by kernel_rfl)) rfl ?_
     exact ⟨zv, (zi HI0), (zb HB), (zh HK)⟩
   rw [if_pos c12] at H
   have c12b0 : decide (x6_1 < 8) = true := decide_eq_true c12
   clear c12
   replace H := obs H
   obtain ⟨t349, A130, H⟩ := H
   replace H : (if t349 = true then ((spec_l11Copy.f k1 l1_0 l1_1).bind fun bt350 => ((spec_l12Do.f k1 bt350.1 bt350.2 x349000_1 x349001_1 x349002_1 x349003_1 x349004_1).bind fun bt356 => (if bt356.2.2 = true then (some (x349000_1, x349001_1, x349002_1, x349003_1, x349004_1, x1001_1)) else (spec_l71Fits.j1 k1 x6_1 s0_0 x1001_1 l1_0 l1_1)))) else (spec_l71Fits.j1 k1 x6_1 s0_0 x1001_1 l1_0 l1_1)) = some (r1, r2, r3, r4, r5, r6) := H
   have A13 := am A130
   clear A130
   have HC14 := am H
   clear H
   have hnb15 := NB348_340.out
   have hnc15 := NB340_348.out
   have hnb16 := NB348_341.out
   have hnc16 := NB341_348.out
   have hnb17 := NB348_0.out
   have hnc17 := NB0_348.out
   have hcz18_0 := ce0 BK348
   have hcz18_1 := ce1 BK348
   have hcz18_2 := ce2 BK348
   have hcz18_3 := ce3 BK348
   have hcz18_4 := ce4 BK348
   have hfz18_0 := bfz BK348 0
   have hfz18_1 := bfz BK348 1
   have hfz18_2 := bfz BK348 2
   have hfz18_3 := bfz BK348 3
   have hfz18_4 := bfz BK348 4
   go_upto_if 16 with (first | ((with_reducible refine gate_callee (f := 83) rfl ?_); refine gl Try.func83 16 #[.agg #[.int .i64 x349000_1, .string x349001_1, .string x349002_1, .int .i64 x349003_1, .string x349004_1]] rfl rfl rfl ?_; (with_reducible refine (spec_OpOk.calls k1 x349000_1 x349001_1 x349002_1 x349003_1 x349004_1 t349 _ A13.out).mono ?_); rintro e w19 ⟨rfl, hb⟩; refine ⟨_, rfl, ?_⟩; replace BK340 := am (blk_below (zk BK340) hb); replace BK341 := am (blk_below (zk BK341) hb); replace BK348 := am (blk_below (zk BK348) hb); replace HI0 := am (IsS93.below (zi HI0) hb); replace HK := am (KeepBut.trans (zh HK) (KeepBut.of_below hb g none) (.inl rfl)); replace HB := am (below_step (zb HB) hb); (try clear hb); (try clear hb2); (try clear hk); (try clear hi)))
   (try simp only [Act.put, List.setIfInBounds_toArray, List.set_cons_zero, List.set_cons_succ])
   go_cut [] (fun wc => ∃ (kq : Nat) (x342000_13 : Int) (x342001_13 : ByteArray) (x342002_13 : ByteArray) (x342003_13 : Int) (x342004_13 : ByteArray), Aside0 (spec_l71Fits.j1 kq x6_1 s0_0 x1001_1 l1_0 l1_1 = some (r1, r2, r3, r4, r5, r6)) ∧ Aside0 (kq ≤ k1) ∧ Aside0 (wc.heap[gb340]? = some (.cells #[(.slice A1_0 l1_0.length c1_0), (.slice A1_1 l1_1.length c1_1)] 31 (0, 0))) ∧ Aside0 (wc.heap[gb341]? = some (.cells #[.int .i64 x342000_13, .string x342001_13, .string x342002_13, .int .i64 x342003_13, .string x342004_13] 103 (0, 0))) ∧ Aside0 (wc.heap[gb348]? = some (.cells #[.int .i64 x349000_1, .string x349001_1, .string x349002_1, .int .i64 x349003_1, .string x349004_1] 103 (0, 0))) ∧ Aside0 (IsS93 w0 wc g s0_0 x1001_1) ∧ Aside0 (KeepBut w wc g none) ∧ Aside0 (Below w0.heap.size w0 wc))
   case first =>
    have H := HC14.out
    clear HC14
    by_cases c20 : t349 = true
    rotate_left
    · replace c20 := Bool.eq_false_iff.mpr c20
      subst c20
      have H1 : (spec_l71Fits.j1 k1 x6_1 s0_0 x1001_1 l1_0 l1_1) = some (r1, r2, r3, r4, r5, r6) := by rw [if_neg (show ¬ (false = true) by decide)] at H; exact H
      clear H
      have H := H1
      clear H1
      have H' := am H
      clear H
      go_wp2
      go_meet
      case rel => exact ⟨_, (x342000_1), (x342001_1), (x342002_1), (x342003_1), (x342004_1), H', ⟨by have := HK1.out; first | omega | exact Nat.le_refl _⟩, ⟨zk BK340⟩, ⟨zk BK341⟩, ⟨zk BK348⟩, ⟨zi HI0⟩, ⟨zh HK⟩, ⟨zb HB⟩⟩
    subst c20
    have H1 : ((spec_l11Copy.f k1 l1_0 l1_1).bind fun bt350 => ((spec_l12Do.f k1 bt350.1 bt350.2 x349000_1 x349001_1 x349002_1 x349003_1 x349004_1).bind fun bt356 => (if bt356.2.2 = true then (some (x349000_1, x349001_1, x349002_1, x349003_1, x349004_1, x1001_1)) else (spec_l71Fits.j1 k1 x6_1 s0_0 x1001_1 l1_0 l1_1)))) = some (r1, r2, r3, r4, r5, r6) := by rw [if_pos rfl] at H; exact H
    clear H
    have H := H1
    clear H1
    replace H := obs H
    obtain ⟨⟨t350, t353⟩, A210, H⟩ := H
    replace H : ((spec_l12Do.f k1 t350 t353 x349000_1 x349001_1 x349002_1 x349003_1 x349004_1).bind fun bt356 => (if bt356.2.2 = true then (some (x349000_1, x349001_1, x349002_1, x349003_1, x349004_1, x1001_1)) else (spec_l71Fits.j1 k1 x6_1 s0_0 x1001_1 l1_0 l1_1))) = some (r1, r2, r3, r4, r5, r6) := H
    have A21 := am A210
    clear A210
    replace H := obs H
    obtain ⟨⟨t356, t359, t362⟩, A220, H⟩ := H
    replace H : (if t362 = true then (some (x349000_1, x349001_1, x349002_1, x349003_1, x349004_1, x1001_1)) else (spec_l71Fits.j1 k1 x6_1 s0_0 x1001_1 l1_0 l1_1)) = some (r1, r2, r3, r4, r5, r6) := H
    have A22 := am A220
    clear A220
    by_cases c23 : t362 = true
    rotate_left
    · replace c23 := Bool.eq_false_iff.mpr c23
      subst c23
      have H1 : (spec_l71Fits.j1 k1 x6_1 s0_0 x1001_1 l1_0 l1_1) = some (r1, r2, r3, r4, r5, r6) := by rw [if_neg (show ¬ (false = true) by decide)] at H; exact H
      clear H
      have H := H1
      clear H1
      have H' := am H
      clear H
      try go_wp2
      replace BK340 := am (blk_drew BK340.out)
      replace BK341 := am (blk_drew BK341.out)
      replace BK348 := am (blk_drew BK348.out)
      replace HI0 := am (IsS93.drew HI0.out)
      replace HK := am (keep_drew HK.out)
      replace HB := am (below_drew1 HB.out)
      refine start_ (n := 10) (S := fun w' => w'.cell? ⟨gb340, 0, none⟩ = some (.slice A1_0 l1_0.length c1_0) ∧ w'.cell? ⟨gb340, 1, none⟩ = some (.slice A1_1 l1_1.length c1_1) ∧ w'.cell? ⟨gb348, 0, none⟩ = some (.int .i64 x349000_1) ∧ w'.cell? ⟨gb348, 1, none⟩ = some (.string x349001_1) ∧ w'.cell? ⟨gb348, 2, none⟩ = some (.string x349002_1) ∧ w'.cell? ⟨gb348, 3, none⟩ = some (.int .i64 x349003_1) ∧ w'.cell? ⟨gb348, 4, none⟩ = some (.string x349004_1)) (ds := []) (bs 10 0) (by kernel_rfl) rfl rfl ⟨ce0 BK340, ce1 BK340, ce0 BK348, ce1 BK348, ce2 BK348, ce3 BK348, ce4 BK348⟩ (fun hHeld => ?_); refine with_tabW spec_l71Fits.tab6 spec_l71Fits.bits6 (fun HT_ HW_ => ?_)
      generalize w19.drew = w44 at BK340 BK341 BK348 HI0 HK HB hHeld ⊢
      refine ta7 0 18 10 1 rfl rfl hHeld ?_
      refine ta7 2 20 10 5 rfl rfl hHeld ?_
      refine join_ (σ := Value × Value × Value × Value × Nat) 2 (bs 10 255) (fun s_ => [(19, .agg #[s_.1, s_.2.1]), (21, .tuple #[.agg #[s_.2.2.1, s_.2.2.2.1], .bool false]), (7, .pointer (some ⟨s_.2.2.2.2, 0, none⟩)), (17, .tuple #[.agg #[s_.2.2.1, s_.2.2.2.1], .bool false]), (22, .agg #[s_.2.2.1, s_.2.2.2.1]), (23, .bool false)]) (fun s_ w' => (w'.cell? ⟨gb340, 0, none⟩ = some (.slice A1_0 l1_0.length c1_0) ∧ w'.cell? ⟨gb340, 1, none⟩ = some (.slice A1_1 l1_1.length c1_1) ∧ w'.cell? ⟨gb348, 0, none⟩ = some (.int .i64 x349000_1) ∧ w'.cell? ⟨gb348, 1, none⟩ = some (.string x349001_1) ∧ w'.cell? ⟨gb348, 2, none⟩ = some (.string x349002_1) ∧ w'.cell? ⟨gb348, 3, none⟩ = some (.int .i64 x349003_1) ∧ w'.cell? ⟨gb348, 4, none⟩ = some (.string x349004_1)) ∧ (Kd.R k55 55 w' w.heap.size (fun _ => True) s_.2.2.1 t356) ∧ (Kd.S k38 38 w' w.heap.size (fun _ => True) s_.2.2.2.1 t359) ∧ (w'.heap[gb340]? = some (.cells #[.slice A1_0 l1_0.length c1_0, .slice A1_1 l1_1.length c1_1] 31 (0, 0))) ∧ (w'.heap[gb341]? = some (.cells #[.int .i64 x342000_1, .string x342001_1, .string x342002_1, .int .i64 x342003_1, .string x342004_1] 103 (0, 0))) ∧ (w'.heap[gb348]? = some (.cells #[.int .i64 x349000_1, .string x349001_1, .string x349002_1, .int .i64 x349003_1, .string x349004_1] 103 (0, 0))) ∧ (w'.heap[s_.2.2.2.2]? = some (.cells #[.slice none 0 0, .slice none 0 0] 31 (0, 0))) ∧ (w.heap.size ≤ s_.2.2.2.2) ∧ (w0.heap.size ≤ s_.2.2.2.2) ∧ (g ≠ s_.2.2.2.2) ∧ (s_.2.2.2.2 ≠ g) ∧ (gb340 ≠ s_.2.2.2.2) ∧ (s_.2.2.2.2 ≠ gb340) ∧ (gb341 ≠ s_.2.2.2.2) ∧ (s_.2.2.2.2 ≠ gb341) ∧ (gb348 ≠ s_.2.2.2.2) ∧ (s_.2.2.2.2 ≠ gb348) ∧ (IsS93 w0 w' g s0_0 x1001_1) ∧ (KeepBut w w' g none) ∧ (Below w0.heap.size w0 w')) ?_ ?_
      rotate_left
      · intro hCont
        refine two_ (i := 1) (j := 7) (Ni := some 19) (Nj := some 7) (bs 10 7) (bs 10 133) rfl rfl rfl rfl (two_of HT_.out (by kernel_rfl)) (by decide) (by decide) (fun K hK => ?_) (fun K hK => ?_)
        · skip
          refine gs Try.func82 #[.agg #[.slice A1_0 l1_0.length c1_0, .slice A1_1 l1_1.length c1_1]] rfl rfl ?_
          with_reducible refine (spec_l11Copy.calls k1 _ _ l1_0 _ _ l1_1 t350 t353 _ ?side1 ?side2 ?side3 ?side4 A21.out).mono ?_
          (case side1 => exact Kd.C_foot_now HR1_0.out (zh HK))
          (case side2 => exact HC1_0.out)
          (case side3 => exact Kd.C_foot_now HR1_1.out (zh HK))
          (case side4 => exact HC1_1.out)
          rintro e w45 ⟨v351, v354, rfl, ho0, ho1, hb⟩
          refine ⟨_, rfl, ?_⟩
          have HO352 := am (Kd.R_lower ho0 (keep_size (zh HK)))
          have HO355 := am (Kd.S_lower ho1 (keep_size (zh HK)))
          replace BK340 := am (blk_below (zk BK340) hb)
          replace BK341 := am (blk_below (zk BK341) hb)
          replace BK348 := am (blk_below (zk BK348) hb)
          replace HI0 := am (IsS93.below (zi HI0) hb)
          replace HK := am (KeepBut.trans (zh HK) (KeepBut.of_below hb g none) (.inl rfl))
          replace HB := am (below_step (zb HB) hb)
          (try clear hb)
          (try clear hb2)
          (try clear hk)
          (try clear hi)
          (try clear ho0)
          (try clear ho1)
          obtain ⟨Ao46, co46, eo46⟩ := Kd.R_slice HO352.out
          (first | subst eo46 | (injection eo46 with f1_ f2_ f3_; have f4_ := f1_.symm; have f5_ := f3_.symm; clear f1_ f2_ f3_; subst f4_; subst f5_))
          obtain ⟨Ao47, co47, eo47⟩ := Kd.S_slice HO355.out
          (first | subst eo47 | (injection eo47 with f1_ f2_ f3_; have f4_ := f1_.symm; have f5_ := f3_.symm; clear f1_ f2_ f3_; subst f4_; subst f5_))
          refine hK.out _ _ ⟨ce0 BK340, ce1 BK340, ce0 BK348, ce1 BK348, ce2 BK348, ce3 BK348, ce4 BK348⟩ (fun hHeld => ?_)
          clear hK K
          refine norm_ (a' := ?_) ?_ ?_
          rotate_left
          · show Act.put _ (some 19) _ = _
            simp only [Act.put, List.setIfInBounds_toArray, List.set_cons_zero, List.set_cons_succ, i64_w, i32_w]
            rfl
          refine two_ (i := 3) (j := 7) (Ni := some 21) (Nj := some 7) (bs 10 15) (bs 10 135) rfl rfl rfl rfl (two_of HT_.out (by kernel_rfl)) (by decide) (by decide) (fun K hK => ?_) (fun K hK => ?_)
          · skip
            refine gs Try.func81 #[.agg #[.slice Ao46 t350.length co46, .slice Ao47 t353.length co47], .agg #[.int .i64 x349000_1, .string x349001_1, .string x349002_1, .int .i64 x349003_1, .string x349004_1]] rfl rfl ?_
            with_reducible refine (spec_l12Do.callsB k1 (fun k_ => some k_ = (.slice Ao46 t350.length co46 : Value).ownBlock) (.slice Ao46 t350.length co46) t350 (fun k_ => some k_ = (.slice Ao47 t353.length co47 : Value).ownBlock) (.slice Ao47 t353.length co47) t353 x349000_1 x349001_1 x349002_1 x349003_1 x349004_1 t356 t359 false w0 _ w.heap.size ?side1 HL.out ?sbw ?side2 ?side3 A22.out).mono ?_
            (case side1 => exact zb HB)
            (case side2 => exact Kd.R_tight rfl HO352.out)
            (case side3 => exact Kd.S_mono (HO355.out) (fun _ _ => trivial))
            (case sbw => exact keep_size (w := w) (g := g) (row := none) (zh HK))
            rintro e w48 ⟨v357, v360, rfl, ho0, ho1, hb, hkp⟩
            refine ⟨_, rfl, ?_⟩
            replace BK340 := am (blk_kept (zk BK340) hkp (fun hs_ => Or.elim hs_ (fun e_ => (fun e_ => (Kd.R_ne HO352.out BK340.out (by decide)) e_) e_) (fun e_ => (fun e_ => (Kd.S_ne HO355.out BK340.out (by decide)) e_) e_)))
            replace BK341 := am (blk_kept (zk BK341) hkp (fun hs_ => Or.elim hs_ (fun e_ => (fun e_ => (Kd.R_ne HO352.out BK341.out (by decide)) e_) e_) (fun e_ => (fun e_ => (Kd.S_ne HO355.out BK341.out (by decide)) e_) e_)))
            replace BK348 := am (blk_kept (zk BK348) hkp (fun hs_ => Or.elim hs_ (fun e_ => (fun e_ => (Kd.R_ne HO352.out BK348.out (by decide)) e_) e_) (fun e_ => (fun e_ => (Kd.S_ne HO355.out BK348.out (by decide)) e_) e_)))
            replace HI0 := am (IsS93.kept (zi HI0) hkp (fun hs_ => Or.elim hs_ (fun e_ => (fun e_ => (IsS93.own_ne HI0.out HO352.out (by decide)) e_) e_) (fun e_ => (fun e_ => (IsS93.own_neS HI0.out HO355.out (by decide)) e_) e_)))
            have HO358 := am (ho0)
            have HO361 := am (ho1)
            replace HK := am (Kept.keepG (zh HK) hkp (fun k_ hs_ => Or.elim hs_ (fun e_ => (fun e_ => .inr (Kd.R_base HO352.out k_ e_.symm)) e_) (fun e_ => (fun e_ => .inr (Kd.S_base HO355.out k_ e_.symm)) e_)))
            replace HB := am (hb)
            clear HO352 HO355
            (try clear hb)
            (try clear hkp)
            (try clear ho0)
            (try clear ho1)
            refine hK.out _ _ ⟨ce0 BK340, ce1 BK340, ce0 BK348, ce1 BK348, ce2 BK348, ce3 BK348, ce4 BK348⟩ (fun hHeld => ?_)
            clear hK K
            refine norm_ (a' := ?_) ?_ ?_
            rotate_left
            · show Act.put _ (some 21) _ = _
              simp only [Act.put, List.setIfInBounds_toArray, List.set_cons_zero, List.set_cons_succ, i64_w, i32_w]
              rfl
            refine pu 4 17 10 31 rfl rfl ?_
            refine pu 5 22 10 63 rfl rfl ?_
            refine pu 6 23 10 127 rfl rfl ?_
            refine oz 7 10 255 rfl rfl (fun K hK => ?_)
            refine box_step ?hg (N := 7) ?hd (cs := #[.slice none 0 0, .slice none 0 0]) (t := 31) ?hr ?_; (case hd => rfl); (case hg => rfl); (case hr => first | (go_simp; done) | (go_simp; rfl))
            intro gb363 hg w49 hbox hb
            replace HO358 := am (Kd.R_below (zr HO358) hb)
            replace HO361 := am (Kd.S_below (zs HO361) hb)
            replace HB := am (below_step (zb HB) hb)
            have BK363 := am (hbox)
            have GW363 := am (zm hg (zh HK))
            have GE363 := am ((Nat.le_trans HW0.out (zm hg (zh HK))))
            replace HK := am (KeepBut.trans (zh HK) (KeepBut.of_below hb g none) (.inl rfl))
            have NB340_363 := am (zx hg (zk BK340))
            have NB363_340 := am (zy hg (zk BK340))
            replace BK340 := am (blk_below (zk BK340) hb)
            have NB341_363 := am (zx hg (zk BK341))
            have NB363_341 := am (zy hg (zk BK341))
            replace BK341 := am (blk_below (zk BK341) hb)
            have NB348_363 := am (zx hg (zk BK348))
            have NB363_348 := am (zy hg (zk BK348))
            replace BK348 := am (blk_below (zk BK348) hb)
            have NB0_363 := am (ix hg (zi HI0))
            have NB363_0 := am (iy hg (zi HI0))
            replace HI0 := am (IsS93.below (zi HI0) hb)
            clear hb hbox hg
            refine hK.out _ _ ⟨ce0 BK340, ce1 BK340, ce0 BK348, ce1 BK348, ce2 BK348, ce3 BK348, ce4 BK348⟩ (fun hHeld => ?_)
            clear hK K
            refine norm_ (a' := ?_) ?_ ?_
            rotate_left
            · show Act.put _ (some 7) _ = _
              simp only [Act.put, List.setIfInBounds_toArray, List.set_cons_zero, List.set_cons_succ, i64_w, i32_w]
              rfl
            exact norm_ (by simp only [putAll, Act.put, List.setIfInBounds_toArray, List.set_cons_zero, List.set_cons_succ]) (hCont (.slice Ao46 t350.length co46, .slice Ao47 t353.length co47, v357, v360, gb363) _ ⟨hHeld, (zr HO358), (zs HO361), (zk BK340), (zk BK341), (zk BK348), (zk BK363), GW363.out, GE363.out, NB0_363.out, NB363_0.out, NB340_363.out, NB363_340.out, NB341_363.out, NB363_341.out, NB348_363.out, NB363_348.out, (zi HI0), (zh HK), (zb HB)⟩)
          skip
          refine box_step ?hg (N := 7) ?hd (cs := #[.slice none 0 0, .slice none 0 0]) (t := 31) ?hr ?_; (case hd => rfl); (case hg => rfl); (case hr => first | (go_simp; done) | (go_simp; rfl))
          intro gb363 hg w46 hbox hb
          replace HO352 := am (Kd.R_below (zr HO352) hb)
          replace HO355 := am (Kd.S_below (zs HO355) hb)
          replace HB := am (below_step (zb HB) hb)
          have BK363 := am (hbox)
          have GW363 := am (zm hg (zh HK))
          have GE363 := am ((Nat.le_trans HW0.out (zm hg (zh HK))))
          replace HK := am (KeepBut.trans (zh HK) (KeepBut.of_below hb g none) (.inl rfl))
          have NB340_363 := am (zx hg (zk BK340))
          have NB363_340 := am (zy hg (zk BK340))
          replace BK340 := am (blk_below (zk BK340) hb)
          have NB341_363 := am (zx hg (zk BK341))
          have NB363_341 := am (zy hg (zk BK341))
          replace BK341 := am (blk_below (zk BK341) hb)
          have NB348_363 := am (zx hg (zk BK348))
          have NB363_348 := am (zy hg (zk BK348))
          replace BK348 := am (blk_below (zk BK348) hb)
          have NB0_363 := am (ix hg (zi HI0))
          have NB363_0 := am (iy hg (zi HI0))
          replace HI0 := am (IsS93.below (zi HI0) hb)
          clear hb hbox hg
          obtain ⟨Ao47, co47, eo47⟩ := Kd.R_slice HO352.out
          (first | subst eo47 | (injection eo47 with f1_ f2_ f3_; have f4_ := f1_.symm; have f5_ := f3_.symm; clear f1_ f2_ f3_; subst f4_; subst f5_))
          obtain ⟨Ao48, co48, eo48⟩ := Kd.S_slice HO355.out
          (first | subst eo48 | (injection eo48 with f1_ f2_ f3_; have f4_ := f1_.symm; have f5_ := f3_.symm; clear f1_ f2_ f3_; subst f4_; subst f5_))
          refine hK.out _ _ ⟨ce0 BK340, ce1 BK340, ce0 BK348, ce1 BK348, ce2 BK348, ce3 BK348, ce4 BK348⟩ (fun hHeld => ?_)
          clear hK K
          refine norm_ (a' := ?_) ?_ ?_
          rotate_left
          · show Act.put _ (some 7) _ = _
            simp only [Act.put, List.setIfInBounds_toArray, List.set_cons_zero, List.set_cons_succ, i64_w, i32_w]
            rfl
          refine oz 3 10 143 rfl rfl (fun K hK => ?_)
          refine gs Try.func81 #[.agg #[.slice Ao47 t350.length co47, .slice Ao48 t353.length co48], .agg #[.int .i64 x349000_1, .string x349001_1, .string x349002_1, .int .i64 x349003_1, .string x349004_1]] rfl rfl ?_
          with_reducible refine (spec_l12Do.callsB k1 (fun k_ => some k_ = (.slice Ao47 t350.length co47 : Value).ownBlock) (.slice Ao47 t350.length co47) t350 (fun k_ => some k_ = (.slice Ao48 t353.length co48 : Value).ownBlock) (.slice Ao48 t353.length co48) t353 x349000_1 x349001_1 x349002_1 x349003_1 x349004_1 t356 t359 false w0 _ w.heap.size ?side1 HL.out ?sbw ?side2 ?side3 A22.out).mono ?_
          (case side1 => exact zb HB)
          (case side2 => exact Kd.R_tight rfl HO352.out)
          (case side3 => exact Kd.S_mono (HO355.out) (fun _ _ => trivial))
          (case sbw => exact keep_size (w := w) (g := g) (row := none) (zh HK))
          rintro e w49 ⟨v357, v360, rfl, ho0, ho1, hb, hkp⟩
          refine ⟨_, rfl, ?_⟩
          replace BK340 := am (blk_kept (zk BK340) hkp (fun hs_ => Or.elim hs_ (fun e_ => (fun e_ => (Kd.R_ne HO352.out BK340.out (by decide)) e_) e_) (fun e_ => (fun e_ => (Kd.S_ne HO355.out BK340.out (by decide)) e_) e_)))
          replace BK341 := am (blk_kept (zk BK341) hkp (fun hs_ => Or.elim hs_ (fun e_ => (fun e_ => (Kd.R_ne HO352.out BK341.out (by decide)) e_) e_) (fun e_ => (fun e_ => (Kd.S_ne HO355.out BK341.out (by decide)) e_) e_)))
          replace BK348 := am (blk_kept (zk BK348) hkp (fun hs_ => Or.elim hs_ (fun e_ => (fun e_ => (Kd.R_ne HO352.out BK348.out (by decide)) e_) e_) (fun e_ => (fun e_ => (Kd.S_ne HO355.out BK348.out (by decide)) e_) e_)))
          replace HI0 := am (IsS93.kept (zi HI0) hkp (fun hs_ => Or.elim hs_ (fun e_ => (fun e_ => (IsS93.own_ne HI0.out HO352.out (by decide)) e_) e_) (fun e_ => (fun e_ => (IsS93.own_neS HI0.out HO355.out (by decide)) e_) e_)))
          replace BK363 := am (blk_kept (zk BK363) hkp (fun hs_ => Or.elim hs_ (fun e_ => (fun e_ => (Kd.R_ne HO352.out BK363.out (by decide)) e_) e_) (fun e_ => (fun e_ => (Kd.S_ne HO355.out BK363.out (by decide)) e_) e_)))
          have HO358 := am (ho0)
          have HO361 := am (ho1)
          replace HK := am (Kept.keepG (zh HK) hkp (fun k_ hs_ => Or.elim hs_ (fun e_ => (fun e_ => .inr (Kd.R_base HO352.out k_ e_.symm)) e_) (fun e_ => (fun e_ => .inr (Kd.S_base HO355.out k_ e_.symm)) e_)))
          replace HB := am (hb)
          clear HO352 HO355
          (try clear hb)
          (try clear hkp)
          (try clear ho0)
          (try clear ho1)
          refine hK.out _ _ ⟨ce0 BK340, ce1 BK340, ce0 BK348, ce1 BK348, ce2 BK348, ce3 BK348, ce4 BK348⟩ (fun hHeld => ?_)
          clear hK K
          refine norm_ (a' := ?_) ?_ ?_
          rotate_left
          · show Act.put _ (some 21) _ = _
            simp only [Act.put, List.setIfInBounds_toArray, List.set_cons_zero, List.set_cons_succ, i64_w, i32_w]
            rfl
          refine pu 4 17 10 159 rfl rfl ?_
          refine pu 5 22 10 191 rfl rfl ?_
          refine pu 6 23 10 255 rfl rfl ?_
          exact norm_ (by simp only [putAll, Act.put, List.setIfInBounds_toArray, List.set_cons_zero, List.set_cons_succ]) (hCont (.slice Ao47 t350.length co47, .slice Ao48 t353.length co48, v357, v360, gb363) _ ⟨hHeld, (zr HO358), (zs HO361), (zk BK340), (zk BK341), (zk BK348), (zk BK363), GW363.out, GE363.out, NB0_363.out, NB363_0.out, NB340_363.out, NB363_340.out, NB341_363.out, NB363_341.out, NB348_363.out, NB363_348.out, (zi HI0), (zh HK), (zb HB)⟩)
        skip
        refine box_step ?hg (N := 7) ?hd (cs := #[.slice none 0 0, .slice none 0 0]) (t := 31) ?hr ?_; (case hd => rfl); (case hg => rfl); (case hr => first | (go_simp; done) | (go_simp; rfl))
        intro gb363 hg w45 hbox hb
        replace HB := am (below_step (zb HB) hb)
        have BK363 := am (hbox)
        have GW363 := am (zm hg (zh HK))
        have GE363 := am ((Nat.le_trans HW0.out (zm hg (zh HK))))
        replace HK := am (KeepBut.trans (zh HK) (KeepBut.of_below hb g none) (.inl rfl))
        have NB340_363 := am (zx hg (zk BK340))
        have NB363_340 := am (zy hg (zk BK340))
        replace BK340 := am (blk_below (zk BK340) hb)
        have NB341_363 := am (zx hg (zk BK341))
        have NB363_341 := am (zy hg (zk BK341))
        replace BK341 := am (blk_below (zk BK341) hb)
        have NB348_363 := am (zx hg (zk BK348))
        have NB363_348 := am (zy hg (zk BK348))
        replace BK348 := am (blk_below (zk BK348) hb)
        have NB0_363 := am (ix hg (zi HI0))
        have NB363_0 := am (iy hg (zi HI0))
        replace HI0 := am (IsS93.below (zi HI0) hb)
        clear hb hbox hg
        refine hK.out _ _ ⟨ce0 BK340, ce1 BK340, ce0 BK348, ce1 BK348, ce2 BK348, ce3 BK348, ce4 BK348⟩ (fun hHeld => ?_)
        clear hK K
        refine norm_ (a' := ?_) ?_ ?_
        rotate_left
        · show Act.put _ (some 7) _ = _
          simp only [Act.put, List.setIfInBounds_toArray, List.set_cons_zero, List.set_cons_succ, i64_w, i32_w]
          rfl
        refine oz 1 10 135 rfl rfl (fun K hK => ?_)
        refine gs Try.func82 #[.agg #[.slice A1_0 l1_0.length c1_0, .slice A1_1 l1_1.length c1_1]] rfl rfl ?_
        with_reducible refine (spec_l11Copy.calls k1 _ _ l1_0 _ _ l1_1 t350 t353 _ ?side1 ?side2 ?side3 ?side4 A21.out).mono ?_
        (case side1 => exact Kd.C_foot_now HR1_0.out (zh HK))
        (case side2 => exact HC1_0.out)
        (case side3 => exact Kd.C_foot_now HR1_1.out (zh HK))
        (case side4 => exact HC1_1.out)
        rintro e w46 ⟨v351, v354, rfl, ho0, ho1, hb⟩
        refine ⟨_, rfl, ?_⟩
        have HO352 := am (Kd.R_lower ho0 (keep_size (zh HK)))
        have HO355 := am (Kd.S_lower ho1 (keep_size (zh HK)))
        replace BK340 := am (blk_below (zk BK340) hb)
        replace BK341 := am (blk_below (zk BK341) hb)
        replace BK348 := am (blk_below (zk BK348) hb)
        replace HI0 := am (IsS93.below (zi HI0) hb)
        replace BK363 := am (blk_below (zk BK363) hb)
        replace HK := am (KeepBut.trans (zh HK) (KeepBut.of_below hb g none) (.inl rfl))
        replace HB := am (below_step (zb HB) hb)
        (try clear hb)
        (try clear hb2)
        (try clear hk)
        (try clear hi)
        (try clear ho0)
        (try clear ho1)
        obtain ⟨Ao47, co47, eo47⟩ := Kd.R_slice HO352.out
        (first | subst eo47 | (injection eo47 with f1_ f2_ f3_; have f4_ := f1_.symm; have f5_ := f3_.symm; clear f1_ f2_ f3_; subst f4_; subst f5_))
        obtain ⟨Ao48, co48, eo48⟩ := Kd.S_slice HO355.out
        (first | subst eo48 | (injection eo48 with f1_ f2_ f3_; have f4_ := f1_.symm; have f5_ := f3_.symm; clear f1_ f2_ f3_; subst f4_; subst f5_))
        refine hK.out _ _ ⟨ce0 BK340, ce1 BK340, ce0 BK348, ce1 BK348, ce2 BK348, ce3 BK348, ce4 BK348⟩ (fun hHeld => ?_)
        clear hK K
        refine norm_ (a' := ?_) ?_ ?_
        rotate_left
        · show Act.put _ (some 19) _ = _
          simp only [Act.put, List.setIfInBounds_toArray, List.set_cons_zero, List.set_cons_succ, i64_w, i32_w]
          rfl
        refine oz 3 10 143 rfl rfl (fun K hK => ?_)
        refine gs Try.func81 #[.agg #[.slice Ao47 t350.length co47, .slice Ao48 t353.length co48], .agg #[.int .i64 x349000_1, .string x349001_1, .string x349002_1, .int .i64 x349003_1, .string x349004_1]] rfl rfl ?_
        with_reducible refine (spec_l12Do.callsB k1 (fun k_ => some k_ = (.slice Ao47 t350.length co47 : Value).ownBlock) (.slice Ao47 t350.length co47) t350 (fun k_ => some k_ = (.slice Ao48 t353.length co48 : Value).ownBlock) (.slice Ao48 t353.length co48) t353 x349000_1 x349001_1 x349002_1 x349003_1 x349004_1 t356 t359 false w0 _ w.heap.size ?side1 HL.out ?sbw ?side2 ?side3 A22.out).mono ?_
        (case side1 => exact zb HB)
        (case side2 => exact Kd.R_tight rfl HO352.out)
        (case side3 => exact Kd.S_mono (HO355.out) (fun _ _ => trivial))
        (case sbw => exact keep_size (w := w) (g := g) (row := none) (zh HK))
        rintro e w49 ⟨v357, v360, rfl, ho0, ho1, hb, hkp⟩
        refine ⟨_, rfl, ?_⟩
        replace BK340 := am (blk_kept (zk BK340) hkp (fun hs_ => Or.elim hs_ (fun e_ => (fun e_ => (Kd.R_ne HO352.out BK340.out (by decide)) e_) e_) (fun e_ => (fun e_ => (Kd.S_ne HO355.out BK340.out (by decide)) e_) e_)))
        replace BK341 := am (blk_kept (zk BK341) hkp (fun hs_ => Or.elim hs_ (fun e_ => (fun e_ => (Kd.R_ne HO352.out BK341.out (by decide)) e_) e_) (fun e_ => (fun e_ => (Kd.S_ne HO355.out BK341.out (by decide)) e_) e_)))
        replace BK348 := am (blk_kept (zk BK348) hkp (fun hs_ => Or.elim hs_ (fun e_ => (fun e_ => (Kd.R_ne HO352.out BK348.out (by decide)) e_) e_) (fun e_ => (fun e_ => (Kd.S_ne HO355.out BK348.out (by decide)) e_) e_)))
        replace HI0 := am (IsS93.kept (zi HI0) hkp (fun hs_ => Or.elim hs_ (fun e_ => (fun e_ => (IsS93.own_ne HI0.out HO352.out (by decide)) e_) e_) (fun e_ => (fun e_ => (IsS93.own_neS HI0.out HO355.out (by decide)) e_) e_)))
        replace BK363 := am (blk_kept (zk BK363) hkp (fun hs_ => Or.elim hs_ (fun e_ => (fun e_ => (Kd.R_ne HO352.out BK363.out (by decide)) e_) e_) (fun e_ => (fun e_ => (Kd.S_ne HO355.out BK363.out (by decide)) e_) e_)))
        have HO358 := am (ho0)
        have HO361 := am (ho1)
        replace HK := am (Kept.keepG (zh HK) hkp (fun k_ hs_ => Or.elim hs_ (fun e_ => (fun e_ => .inr (Kd.R_base HO352.out k_ e_.symm)) e_) (fun e_ => (fun e_ => .inr (Kd.S_base HO355.out k_ e_.symm)) e_)))
        replace HB := am (hb)
        clear HO352 HO355
        (try clear hb)
        (try clear hkp)
        (try clear ho0)
        (try clear ho1)
        refine hK.out _ _ ⟨ce0 BK340, ce1 BK340, ce0 BK348, ce1 BK348, ce2 BK348, ce3 BK348, ce4 BK348⟩ (fun hHeld => ?_)
        clear hK K
        refine norm_ (a' := ?_) ?_ ?_
        rotate_left
        · show Act.put _ (some 21) _ = _
          simp only [Act.put, List.setIfInBounds_toArray, List.set_cons_zero, List.set_cons_succ, i64_w, i32_w]
          rfl
        refine pu 4 17 10 159 rfl rfl ?_
        refine pu 5 22 10 191 rfl rfl ?_
        refine pu 6 23 10 255 rfl rfl ?_
        exact norm_ (by simp only [putAll, Act.put, List.setIfInBounds_toArray, List.set_cons_zero, List.set_cons_succ]) (hCont (.slice Ao47 t350.length co47, .slice Ao48 t353.length co48, v357, v360, gb363) _ ⟨hHeld, (zr HO358), (zs HO361), (zk BK340), (zk BK341), (zk BK348), (zk BK363), GW363.out, GE363.out, NB0_363.out, NB363_0.out, NB340_363.out, NB363_340.out, NB341_363.out, NB363_341.out, NB348_363.out, NB363_348.out, (zi HI0), (zh HK), (zb HB)⟩)
      rintro ⟨v351, v354, v357, v360, gb363⟩ w50 ⟨hS_, h0_, h1_, h2_, h3_, h4_, h5_, h6_, h7_, h8_, h9_, h10_, h11_, h12_, h13_, h14_, h15_, h16_, h17_, h18_⟩
      have HO358 : Aside0 (Kd.R k55 55 w50 w.heap.size (fun _ => True) v357 t356) := ⟨h0_⟩
      have HO361 : Aside0 (Kd.S k38 38 w50 w.heap.size (fun _ => True) v360 t359) := ⟨h1_⟩
      replace BK340 : Aside0 (w50.heap[gb340]? = some (.cells #[.slice A1_0 l1_0.length c1_0, .slice A1_1 l1_1.length c1_1] 31 (0, 0))) := ⟨h2_⟩
      replace BK341 : Aside0 (w50.heap[gb341]? = some (.cells #[.int .i64 x342000_1, .string x342001_1, .string x342002_1, .int .i64 x342003_1, .string x342004_1] 103 (0, 0))) := ⟨h3_⟩
      replace BK348 : Aside0 (w50.heap[gb348]? = some (.cells #[.int .i64 x349000_1, .string x349001_1, .string x349002_1, .int .i64 x349003_1, .string x349004_1] 103 (0, 0))) := ⟨h4_⟩
      have BK363 : Aside0 (w50.heap[gb363]? = some (.cells #[.slice none 0 0, .slice none 0 0] 31 (0, 0))) := ⟨h5_⟩
      have GW363 : Aside0 (w.heap.size ≤ gb363) := ⟨h6_⟩
      have GE363 : Aside0 (w0.heap.size ≤ gb363) := ⟨h7_⟩
      have NB0_363 : Aside0 (g ≠ gb363) := ⟨h8_⟩
      have NB363_0 : Aside0 (gb363 ≠ g) := ⟨h9_⟩
      have NB340_363 : Aside0 (gb340 ≠ gb363) := ⟨h10_⟩
      have NB363_340 : Aside0 (gb363 ≠ gb340) := ⟨h11_⟩
      have NB341_363 : Aside0 (gb341 ≠ gb363) := ⟨h12_⟩
      have NB363_341 : Aside0 (gb363 ≠ gb341) := ⟨h13_⟩
      have NB348_363 : Aside0 (gb348 ≠ gb363) := ⟨h14_⟩
      have NB363_348 : Aside0 (gb363 ≠ gb348) := ⟨h15_⟩
      replace HI0 : Aside0 (IsS93 w0 w50 g s0_0 x1001_1) := ⟨h16_⟩
      replace HK : Aside0 (KeepBut w w50 g none) := ⟨h17_⟩
      replace HB : Aside0 (Below w0.heap.size w0 w50) := ⟨h18_⟩
      clear h0_ h1_ h2_ h3_ h4_ h5_ h6_ h7_ h8_ h9_ h10_ h11_ h12_ h13_ h14_ h15_ h16_ h17_ h18_
      have hHeld : w50.cell? ⟨gb340, 0, none⟩ = some (.slice A1_0 l1_0.length c1_0) ∧ w50.cell? ⟨gb340, 1, none⟩ = some (.slice A1_1 l1_1.length c1_1) ∧ w50.cell? ⟨gb348, 0, none⟩ = some (.int .i64 x349000_1) ∧ w50.cell? ⟨gb348, 1, none⟩ = some (.string x349001_1) ∧ w50.cell? ⟨gb348, 2, none⟩ = some (.string x349002_1) ∧ w50.cell? ⟨gb348, 3, none⟩ = some (.int .i64 x349003_1) ∧ w50.cell? ⟨gb348, 4, none⟩ = some (.string x349004_1) := hS_
      obtain ⟨Ao51, co51, eo51⟩ := Kd.R_slice HO358.out
      (first | subst eo51 | (injection eo51 with f1_ f2_ f3_; have f4_ := f1_.symm; have f5_ := f3_.symm; clear f1_ f2_ f3_; subst f4_; subst f5_))
      obtain ⟨Ao53, co53, eo53⟩ := Kd.S_slice HO361.out
      (first | subst eo53 | (injection eo53 with f1_ f2_ f3_; have f4_ := f1_.symm; have f5_ := f3_.symm; clear f1_ f2_ f3_; subst f4_; subst f5_))
      refine norm_ (a' := ?_) ?_ ?_
      rotate_left
      · simp only [putAll, Act.put, List.setIfInBounds_toArray, List.set_cons_zero, List.set_cons_succ]
        rfl
      refine oz 8 10 511 rfl rfl (fun K hK => ?_)
      have hs52 := ce0 BK363
      have hfs52 := bfz BK363 0
      have hns52_0 := NB340_363.out
      have hns52_1 := NB341_363.out
      have hns52_2 := NB348_363.out
      have hms52_0 := NB363_340.out
      have hms52_1 := NB363_341.out
      have hms52_2 := NB363_348.out
      have hs54 := ce1 BK363
      have hfs54 := bfz BK363 1
      have hns54_0 := NB340_363.out
      have hns54_1 := NB341_363.out
      have hns54_2 := NB348_363.out
      have hms54_0 := NB363_340.out
      have hms54_1 := NB363_341.out
      have hms54_2 := NB363_348.out
      refine skip_ (w1 := ?_) (by rfl) rfl ?_ ?_
      rotate_left
      · go_simp
        rfl
      refine hK.out _ _ ⟨((cell_far (p := ⟨gb363, _, none⟩) NB340_363.out _).trans (((cell_far (p := ⟨gb363, _, none⟩) NB340_363.out _).trans (hHeld.1)))), ((cell_far (p := ⟨gb363, _, none⟩) NB340_363.out _).trans (((cell_far (p := ⟨gb363, _, none⟩) NB340_363.out _).trans (hHeld.2.1)))), ((cell_far (p := ⟨gb363, _, none⟩) NB348_363.out _).trans (((cell_far (p := ⟨gb363, _, none⟩) NB348_363.out _).trans (hHeld.2.2.1)))), ((cell_far (p := ⟨gb363, _, none⟩) NB348_363.out _).trans (((cell_far (p := ⟨gb363, _, none⟩) NB348_363.out _).trans (hHeld.2.2.2.1)))), ((cell_far (p := ⟨gb363, _, none⟩) NB348_363.out _).trans (((cell_far (p := ⟨gb363, _, none⟩) NB348_363.out _).trans (hHeld.2.2.2.2.1)))), ((cell_far (p := ⟨gb363, _, none⟩) NB348_363.out _).trans (((cell_far (p := ⟨gb363, _, none⟩) NB348_363.out _).trans (hHeld.2.2.2.2.2.1)))), ((cell_far (p := ⟨gb363, _, none⟩) NB348_363.out _).trans (((cell_far (p := ⟨gb363, _, none⟩) NB348_363.out _).trans (hHeld.2.2.2.2.2.2))))⟩ (fun hHeld => ?_)
      clear hK K
      refine pu 9 8 10 1023 rfl rfl ?_
      refine done_ (done_of HT_.out (by kernel_rfl)) ?_
      try go_wp2
      go_meet
      case rel => exact ⟨_, (x342000_1), (x342001_1), (x342002_1), (x342003_1), (x342004_1), H', ⟨by have := HK1.out; first | omega | exact Nat.le_refl _⟩, ⟨zk BK340⟩, ⟨zk BK341⟩, ⟨zk BK348⟩, ⟨zi HI0⟩, ⟨zh HK⟩, ⟨zb HB⟩⟩
    subst c23
    have H1 : (some (x349000_1, x349001_1, x349002_1, x349003_1, x349004_1, x1001_1)) = some (r1, r2, r3, r4, r5, r6) := by rw [if_pos rfl] at H; exact H
    clear H
    have H := H1
    clear H1
    simp only [Option.some.injEq, Prod.mk.injEq] at H
    obtain ⟨rfl, rfl, rfl, rfl, rfl, rfl⟩ := H
    try go_wp2
    replace BK340 := am (blk_drew BK340.out)
    replace BK341 := am (blk_drew BK341.out)
    replace BK348 := am (blk_drew BK348.out)
    replace HI0 := am (IsS93.drew HI0.out)
    replace HK := am (keep_drew HK.out)
    replace HB := am (below_drew1 HB.out)
    refine start_ (n := 10) (S := fun w' => w'.cell? ⟨gb340, 0, none⟩ = some (.slice A1_0 l1_0.length c1_0) ∧ w'.cell? ⟨gb340, 1, none⟩ = some (.slice A1_1 l1_1.length c1_1) ∧ w'.cell? ⟨gb348, 0, none⟩ = some (.int .i64 x349000_1) ∧ w'.cell? ⟨gb348, 1, none⟩ = some (.string x349001_1) ∧ w'.cell? ⟨gb348, 2, none⟩ = some (.string x349002_1) ∧ w'.cell? ⟨gb348, 3, none⟩ = some (.int .i64 x349003_1) ∧ w'.cell? ⟨gb348, 4, none⟩ = some (.string x349004_1)) (ds := []) (bs 10 0) (by kernel_rfl) rfl rfl ⟨ce0 BK340, ce1 BK340, ce0 BK348, ce1 BK348, ce2 BK348, ce3 BK348, ce4 BK348⟩ (fun hHeld => ?_); refine with_tabW spec_l71Fits.tab6 spec_l71Fits.bits6 (fun HT_ HW_ => ?_)
    generalize w19.drew = w24 at BK340 BK341 BK348 HI0 HK HB hHeld ⊢
    refine ta7 0 18 10 1 rfl rfl hHeld ?_
    refine ta7 2 20 10 5 rfl rfl hHeld ?_
    refine join_ (σ := Value × Value × Value × Value × Nat) 2 (bs 10 255) (fun s_ => [(19, .agg #[s_.1, s_.2.1]), (21, .tuple #[.agg #[s_.2.2.1, s_.2.2.2.1], .bool true]), (7, .pointer (some ⟨s_.2.2.2.2, 0, none⟩)), (17, .tuple #[.agg #[s_.2.2.1, s_.2.2.2.1], .bool true]), (22, .agg #[s_.2.2.1, s_.2.2.2.1]), (23, .bool true)]) (fun s_ w' => (w'.cell? ⟨gb340, 0, none⟩ = some (.slice A1_0 l1_0.length c1_0) ∧ w'.cell? ⟨gb340, 1, none⟩ = some (.slice A1_1 l1_1.length c1_1) ∧ w'.cell? ⟨gb348, 0, none⟩ = some (.int .i64 x349000_1) ∧ w'.cell? ⟨gb348, 1, none⟩ = some (.string x349001_1) ∧ w'.cell? ⟨gb348, 2, none⟩ = some (.string x349002_1) ∧ w'.cell? ⟨gb348, 3, none⟩ = some (.int .i64 x349003_1) ∧ w'.cell? ⟨gb348, 4, none⟩ = some (.string x349004_1)) ∧ (Kd.R k55 55 w' w.heap.size (fun _ => True) s_.2.2.1 t356) ∧ (Kd.S k38 38 w' w.heap.size (fun _ => True) s_.2.2.2.1 t359) ∧ (w'.heap[gb340]? = some (.cells #[.slice A1_0 l1_0.length c1_0, .slice A1_1 l1_1.length c1_1] 31 (0, 0))) ∧ (w'.heap[gb341]? = some (.cells #[.int .i64 x342000_1, .string x342001_1, .string x342002_1, .int .i64 x342003_1, .string x342004_1] 103 (0, 0))) ∧ (w'.heap[gb348]? = some (.cells #[.int .i64 x349000_1, .string x349001_1, .string x349002_1, .int .i64 x349003_1, .string x349004_1] 103 (0, 0))) ∧ (w'.heap[s_.2.2.2.2]? = some (.cells #[.slice none 0 0, .slice none 0 0] 31 (0, 0))) ∧ (w.heap.size ≤ s_.2.2.2.2) ∧ (w0.heap.size ≤ s_.2.2.2.2) ∧ (g ≠ s_.2.2.2.2) ∧ (s_.2.2.2.2 ≠ g) ∧ (gb340 ≠ s_.2.2.2.2) ∧ (s_.2.2.2.2 ≠ gb340) ∧ (gb341 ≠ s_.2.2.2.2) ∧ (s_.2.2.2.2 ≠ gb341) ∧ (gb348 ≠ s_.2.2.2.2) ∧ (s_.2.2.2.2 ≠ gb348) ∧ (IsS93 w0 w' g s0_0 x1001_1) ∧ (KeepBut w w' g none) ∧ (Below w0.heap.size w0 w')) ?_ ?_
    rotate_left
    · intro hCont
      refine two_ (i := 1) (j := 7) (Ni := some 19) (Nj := some 7) (bs 10 7) (bs 10 133) rfl rfl rfl rfl (two_of HT_.out (by kernel_rfl)) (by decide) (by decide) (fun K hK => ?_) (fun K hK => ?_)
      · skip
        refine gs Try.func82 #[.agg #[.slice A1_0 l1_0.length c1_0, .slice A1_1 l1_1.length c1_1]] rfl rfl ?_
        with_reducible refine (spec_l11Copy.calls k1 _ _ l1_0 _ _ l1_1 t350 t353 _ ?side1 ?side2 ?side3 ?side4 A21.out).mono ?_
        (case side1 => exact Kd.C_foot_now HR1_0.out (zh HK))
        (case side2 => exact HC1_0.out)
        (case side3 => exact Kd.C_foot_now HR1_1.out (zh HK))
        (case side4 => exact HC1_1.out)
        rintro e w25 ⟨v351, v354, rfl, ho0, ho1, hb⟩
        refine ⟨_, rfl, ?_⟩
        have HO352 := am (Kd.R_lower ho0 (keep_size (zh HK)))
        have HO355 := am (Kd.S_lower ho1 (keep_size (zh HK)))
        replace BK340 := am (blk_below (zk BK340) hb)
        replace BK341 := am (blk_below (zk BK341) hb)
        replace BK348 := am (blk_below (zk BK348) hb)
        replace HI0 := am (IsS93.below (zi HI0) hb)
        replace HK := am (KeepBut.trans (zh HK) (KeepBut.of_below hb g none) (.inl rfl))
        replace HB := am (below_step (zb HB) hb)
        (try clear hb)
        (try clear hb2)
        (try clear hk)
        (try clear hi)
        (try clear ho0)
        (try clear ho1)
        obtain ⟨Ao26, co26, eo26⟩ := Kd.R_slice HO352.out
        (first | subst eo26 | (injection eo26 with f1_ f2_ f3_; have f4_ := f1_.symm; have f5_ := f3_.symm; clear f1_ f2_ f3_; subst f4_; subst f5_))
        obtain ⟨Ao27, co27, eo27⟩ := Kd.S_slice HO355.out
        (first | subst eo27 | (injection eo27 with f1_ f2_ f3_; have f4_ := f1_.symm; have f5_ := f3_.symm; clear f1_ f2_ f3_; subst f4_; subst f5_))
        refine hK.out _ _ ⟨ce0 BK340, ce1 BK340, ce0 BK348, ce1 BK348, ce2 BK348, ce3 BK348, ce4 BK348⟩ (fun hHeld => ?_)
        clear hK K
        refine norm_ (a' := ?_) ?_ ?_
        rotate_left
        · show Act.put _ (some 19) _ = _
          simp only [Act.put, List.setIfInBounds_toArray, List.set_cons_zero, List.set_cons_succ, i64_w, i32_w]
          rfl
        refine two_ (i := 3) (j := 7) (Ni := some 21) (Nj := some 7) (bs 10 15) (bs 10 135) rfl rfl rfl rfl (two_of HT_.out (by kernel_rfl)) (by decide) (by decide) (fun K hK => ?_) (fun K hK => ?_)
        · skip
          refine gs Try.func81 #[.agg #[.slice Ao26 t350.length co26, .slice Ao27 t353.length co27], .agg #[.int .i64 x349000_1, .string x349001_1, .string x349002_1, .int .i64 x349003_1, .string x349004_1]] rfl rfl ?_
          with_reducible refine (spec_l12Do.callsB k1 (fun k_ => some k_ = (.slice Ao26 t350.length co26 : Value).ownBlock) (.slice Ao26 t350.length co26) t350 (fun k_ => some k_ = (.slice Ao27 t353.length co27 : Value).ownBlock) (.slice Ao27 t353.length co27) t353 x349000_1 x349001_1 x349002_1 x349003_1 x349004_1 t356 t359 true w0 _ w.heap.size ?side1 HL.out ?sbw ?side2 ?side3 A22.out).mono ?_
          (case side1 => exact zb HB)
          (case side2 => exact Kd.R_tight rfl HO352.out)
          (case side3 => exact Kd.S_mono (HO355.out) (fun _ _ => trivial))
          (case sbw => exact keep_size (w := w) (g := g) (row := none) (zh HK))
          rintro e w28 ⟨v357, v360, rfl, ho0, ho1, hb, hkp⟩
          refine ⟨_, rfl, ?_⟩
          replace BK340 := am (blk_kept (zk BK340) hkp (fun hs_ => Or.elim hs_ (fun e_ => (fun e_ => (Kd.R_ne HO352.out BK340.out (by decide)) e_) e_) (fun e_ => (fun e_ => (Kd.S_ne HO355.out BK340.out (by decide)) e_) e_)))
          replace BK341 := am (blk_kept (zk BK341) hkp (fun hs_ => Or.elim hs_ (fun e_ => (fun e_ => (Kd.R_ne HO352.out BK341.out (by decide)) e_) e_) (fun e_ => (fun e_ => (Kd.S_ne HO355.out BK341.out (by decide)) e_) e_)))
          replace BK348 := am (blk_kept (zk BK348) hkp (fun hs_ => Or.elim hs_ (fun e_ => (fun e_ => (Kd.R_ne HO352.out BK348.out (by decide)) e_) e_) (fun e_ => (fun e_ => (Kd.S_ne HO355.out BK348.out (by decide)) e_) e_)))
          replace HI0 := am (IsS93.kept (zi HI0) hkp (fun hs_ => Or.elim hs_ (fun e_ => (fun e_ => (IsS93.own_ne HI0.out HO352.out (by decide)) e_) e_) (fun e_ => (fun e_ => (IsS93.own_neS HI0.out HO355.out (by decide)) e_) e_)))
          have HO358 := am (ho0)
          have HO361 := am (ho1)
          replace HK := am (Kept.keepG (zh HK) hkp (fun k_ hs_ => Or.elim hs_ (fun e_ => (fun e_ => .inr (Kd.R_base HO352.out k_ e_.symm)) e_) (fun e_ => (fun e_ => .inr (Kd.S_base HO355.out k_ e_.symm)) e_)))
          replace HB := am (hb)
          clear HO352 HO355
          (try clear hb)
          (try clear hkp)
          (try clear ho0)
          (try clear ho1)
          refine hK.out _ _ ⟨ce0 BK340, ce1 BK340, ce0 BK348, ce1 BK348, ce2 BK348, ce3 BK348, ce4 BK348⟩ (fun hHeld => ?_)
          clear hK K
          refine norm_ (a' := ?_) ?_ ?_
          rotate_left
          · show Act.put _ (some 21) _ = _
            simp only [Act.put, List.setIfInBounds_toArray, List.set_cons_zero, List.set_cons_succ, i64_w, i32_w]
            rfl
          refine pu 4 17 10 31 rfl rfl ?_
          refine pu 5 22 10 63 rfl rfl ?_
          refine pu 6 23 10 127 rfl rfl ?_
          refine oz 7 10 255 rfl rfl (fun K hK => ?_)
          refine box_step ?hg (N := 7) ?hd (cs := #[.slice none 0 0, .slice none 0 0]) (t := 31) ?hr ?_; (case hd => rfl); (case hg => rfl); (case hr => first | (go_simp; done) | (go_simp; rfl))
          intro gb363 hg w29 hbox hb
          replace HO358 := am (Kd.R_below (zr HO358) hb)
          replace HO361 := am (Kd.S_below (zs HO361) hb)
          replace HB := am (below_step (zb HB) hb)
          have BK363 := am (hbox)
          have GW363 := am (zm hg (zh HK))
          have GE363 := am ((Nat.le_trans HW0.out (zm hg (zh HK))))
          replace HK := am (KeepBut.trans (zh HK) (KeepBut.of_below hb g none) (.inl rfl))
          have NB340_363 := am (zx hg (zk BK340))
          have NB363_340 := am (zy hg (zk BK340))
          replace BK340 := am (blk_below (zk BK340) hb)
          have NB341_363 := am (zx hg (zk BK341))
          have NB363_341 := am (zy hg (zk BK341))
          replace BK341 := am (blk_below (zk BK341) hb)
          have NB348_363 := am (zx hg (zk BK348))
          have NB363_348 := am (zy hg (zk BK348))
          replace BK348 := am (blk_below (zk BK348) hb)
          have NB0_363 := am (ix hg (zi HI0))
          have NB363_0 := am (iy hg (zi HI0))
          replace HI0 := am (IsS93.below (zi HI0) hb)
          clear hb hbox hg
          refine hK.out _ _ ⟨ce0 BK340, ce1 BK340, ce0 BK348, ce1 BK348, ce2 BK348, ce3 BK348, ce4 BK348⟩ (fun hHeld => ?_)
          clear hK K
          refine norm_ (a' := ?_) ?_ ?_
          rotate_left
          · show Act.put _ (some 7) _ = _
            simp only [Act.put, List.setIfInBounds_toArray, List.set_cons_zero, List.set_cons_succ, i64_w, i32_w]
            rfl
          exact norm_ (by simp only [putAll, Act.put, List.setIfInBounds_toArray, List.set_cons_zero, List.set_cons_succ]) (hCont (.slice Ao26 t350.length co26, .slice Ao27 t353.length co27, v357, v360, gb363) _ ⟨hHeld, (zr HO358), (zs HO361), (zk BK340), (zk BK341), (zk BK348), (zk BK363), GW363.out, GE363.out, NB0_363.out, NB363_0.out, NB340_363.out, NB363_340.out, NB341_363.out, NB363_341.out, NB348_363.out, NB363_348.out, (zi HI0), (zh HK), (zb HB)⟩)
        skip
        refine box_step ?hg (N := 7) ?hd (cs := #[.slice none 0 0, .slice none 0 0]) (t := 31) ?hr ?_; (case hd => rfl); (case hg => rfl); (case hr => first | (go_simp; done) | (go_simp; rfl))
        intro gb363 hg w26 hbox hb
        replace HO352 := am (Kd.R_below (zr HO352) hb)
        replace HO355 := am (Kd.S_below (zs HO355) hb)
        replace HB := am (below_step (zb HB) hb)
        have BK363 := am (hbox)
        have GW363 := am (zm hg (zh HK))
        have GE363 := am ((Nat.le_trans HW0.out (zm hg (zh HK))))
        replace HK := am (KeepBut.trans (zh HK) (KeepBut.of_below hb g none) (.inl rfl))
        have NB340_363 := am (zx hg (zk BK340))
        have NB363_340 := am (zy hg (zk BK340))
        replace BK340 := am (blk_below (zk BK340) hb)
        have NB341_363 := am (zx hg (zk BK341))
        have NB363_341 := am (zy hg (zk BK341))
        replace BK341 := am (blk_below (zk BK341) hb)
        have NB348_363 := am (zx hg (zk BK348))
        have NB363_348 := am (zy hg (zk BK348))
        replace BK348 := am (blk_below (zk BK348) hb)
        have NB0_363 := am (ix hg (zi HI0))
        have NB363_0 := am (iy hg (zi HI0))
        replace HI0 := am (IsS93.below (zi HI0) hb)
        clear hb hbox hg
        obtain ⟨Ao27, co27, eo27⟩ := Kd.R_slice HO352.out
        (first | subst eo27 | (injection eo27 with f1_ f2_ f3_; have f4_ := f1_.symm; have f5_ := f3_.symm; clear f1_ f2_ f3_; subst f4_; subst f5_))
        obtain ⟨Ao28, co28, eo28⟩ := Kd.S_slice HO355.out
        (first | subst eo28 | (injection eo28 with f1_ f2_ f3_; have f4_ := f1_.symm; have f5_ := f3_.symm; clear f1_ f2_ f3_; subst f4_; subst f5_))
        refine hK.out _ _ ⟨ce0 BK340, ce1 BK340, ce0 BK348, ce1 BK348, ce2 BK348, ce3 BK348, ce4 BK348⟩ (fun hHeld => ?_)
        clear hK K
        refine norm_ (a' := ?_) ?_ ?_
        rotate_left
        · show Act.put _ (some 7) _ = _
          simp only [Act.put, List.setIfInBounds_toArray, List.set_cons_zero, List.set_cons_succ, i64_w, i32_w]
          rfl
        refine oz 3 10 143 rfl rfl (fun K hK => ?_)
        refine gs Try.func81 #[.agg #[.slice Ao27 t350.length co27, .slice Ao28 t353.length co28], .agg #[.int .i64 x349000_1, .string x349001_1, .string x349002_1, .int .i64 x349003_1, .string x349004_1]] rfl rfl ?_
        with_reducible refine (spec_l12Do.callsB k1 (fun k_ => some k_ = (.slice Ao27 t350.length co27 : Value).ownBlock) (.slice Ao27 t350.length co27) t350 (fun k_ => some k_ = (.slice Ao28 t353.length co28 : Value).ownBlock) (.slice Ao28 t353.length co28) t353 x349000_1 x349001_1 x349002_1 x349003_1 x349004_1 t356 t359 true w0 _ w.heap.size ?side1 HL.out ?sbw ?side2 ?side3 A22.out).mono ?_
        (case side1 => exact zb HB)
        (case side2 => exact Kd.R_tight rfl HO352.out)
        (case side3 => exact Kd.S_mono (HO355.out) (fun _ _ => trivial))
        (case sbw => exact keep_size (w := w) (g := g) (row := none) (zh HK))
        rintro e w29 ⟨v357, v360, rfl, ho0, ho1, hb, hkp⟩
        refine ⟨_, rfl, ?_⟩
        replace BK340 := am (blk_kept (zk BK340) hkp (fun hs_ => Or.elim hs_ (fun e_ => (fun e_ => (Kd.R_ne HO352.out BK340.out (by decide)) e_) e_) (fun e_ => (fun e_ => (Kd.S_ne HO355.out BK340.out (by decide)) e_) e_)))
        replace BK341 := am (blk_kept (zk BK341) hkp (fun hs_ => Or.elim hs_ (fun e_ => (fun e_ => (Kd.R_ne HO352.out BK341.out (by decide)) e_) e_) (fun e_ => (fun e_ => (Kd.S_ne HO355.out BK341.out (by decide)) e_) e_)))
        replace BK348 := am (blk_kept (zk BK348) hkp (fun hs_ => Or.elim hs_ (fun e_ => (fun e_ => (Kd.R_ne HO352.out BK348.out (by decide)) e_) e_) (fun e_ => (fun e_ => (Kd.S_ne HO355.out BK348.out (by decide)) e_) e_)))
        replace HI0 := am (IsS93.kept (zi HI0) hkp (fun hs_ => Or.elim hs_ (fun e_ => (fun e_ => (IsS93.own_ne HI0.out HO352.out (by decide)) e_) e_) (fun e_ => (fun e_ => (IsS93.own_neS HI0.out HO355.out (by decide)) e_) e_)))
        replace BK363 := am (blk_kept (zk BK363) hkp (fun hs_ => Or.elim hs_ (fun e_ => (fun e_ => (Kd.R_ne HO352.out BK363.out (by decide)) e_) e_) (fun e_ => (fun e_ => (Kd.S_ne HO355.out BK363.out (by decide)) e_) e_)))
        have HO358 := am (ho0)
        have HO361 := am (ho1)
        replace HK := am (Kept.keepG (zh HK) hkp (fun k_ hs_ => Or.elim hs_ (fun e_ => (fun e_ => .inr (Kd.R_base HO352.out k_ e_.symm)) e_) (fun e_ => (fun e_ => .inr (Kd.S_base HO355.out k_ e_.symm)) e_)))
        replace HB := am (hb)
        clear HO352 HO355
        (try clear hb)
        (try clear hkp)
        (try clear ho0)
        (try clear ho1)
        refine hK.out _ _ ⟨ce0 BK340, ce1 BK340, ce0 BK348, ce1 BK348, ce2 BK348, ce3 BK348, ce4 BK348⟩ (fun hHeld => ?_)
        clear hK K
        refine norm_ (a' := ?_) ?_ ?_
        rotate_left
        · show Act.put _ (some 21) _ = _
          simp only [Act.put, List.setIfInBounds_toArray, List.set_cons_zero, List.set_cons_succ, i64_w, i32_w]
          rfl
        refine pu 4 17 10 159 rfl rfl ?_
        refine pu 5 22 10 191 rfl rfl ?_
        refine pu 6 23 10 255 rfl rfl ?_
        exact norm_ (by simp only [putAll, Act.put, List.setIfInBounds_toArray, List.set_cons_zero, List.set_cons_succ]) (hCont (.slice Ao27 t350.length co27, .slice Ao28 t353.length co28, v357, v360, gb363) _ ⟨hHeld, (zr HO358), (zs HO361), (zk BK340), (zk BK341), (zk BK348), (zk BK363), GW363.out, GE363.out, NB0_363.out, NB363_0.out, NB340_363.out, NB363_340.out, NB341_363.out, NB363_341.out, NB348_363.out, NB363_348.out, (zi HI0), (zh HK), (zb HB)⟩)
      skip
      refine box_step ?hg (N := 7) ?hd (cs := #[.slice none 0 0, .slice none 0 0]) (t := 31) ?hr ?_; (case hd => rfl); (case hg => rfl); (case hr => first | (go_simp; done) | (go_simp; rfl))
      intro gb363 hg w25 hbox hb
      replace HB := am (below_step (zb HB) hb)
      have BK363 := am (hbox)
      have GW363 := am (zm hg (zh HK))
      have GE363 := am ((Nat.le_trans HW0.out (zm hg (zh HK))))
      replace HK := am (KeepBut.trans (zh HK) (KeepBut.of_below hb g none) (.inl rfl))
      have NB340_363 := am (zx hg (zk BK340))
      have NB363_340 := am (zy hg (zk BK340))
      replace BK340 := am (blk_below (zk BK340) hb)
      have NB341_363 := am (zx hg (zk BK341))
      have NB363_341 := am (zy hg (zk BK341))
      replace BK341 := am (blk_below (zk BK341) hb)
      have NB348_363 := am (zx hg (zk BK348))
      have NB363_348 := am (zy hg (zk BK348))
      replace BK348 := am (blk_below (zk BK348) hb)
      have NB0_363 := am (ix hg (zi HI0))
      have NB363_0 := am (iy hg (zi HI0))
      replace HI0 := am (IsS93.below (zi HI0) hb)
      clear hb hbox hg
      refine hK.out _ _ ⟨ce0 BK340, ce1 BK340, ce0 BK348, ce1 BK348, ce2 BK348, ce3 BK348, ce4 BK348⟩ (fun hHeld => ?_)
      clear hK K
      refine norm_ (a' := ?_) ?_ ?_
      rotate_left
      · show Act.put _ (some 7) _ = _
        simp only [Act.put, List.setIfInBounds_toArray, List.set_cons_zero, List.set_cons_succ, i64_w, i32_w]
        rfl
      refine oz 1 10 135 rfl rfl (fun K hK => ?_)
      refine gs Try.func82 #[.agg #[.slice A1_0 l1_0.length c1_0, .slice A1_1 l1_1.length c1_1]] rfl rfl ?_
      with_reducible refine (spec_l11Copy.calls k1 _ _ l1_0 _ _ l1_1 t350 t353 _ ?side1 ?side2 ?side3 ?side4 A21.out).mono ?_
      (case side1 => exact Kd.C_foot_now HR1_0.out (zh HK))
      (case side2 => exact HC1_0.out)
      (case side3 => exact Kd.C_foot_now HR1_1.out (zh HK))
      (case side4 => exact HC1_1.out)
      rintro e w26 ⟨v351, v354, rfl, ho0, ho1, hb⟩
      refine ⟨_, rfl, ?_⟩
      have HO352 := am (Kd.R_lower ho0 (keep_size (zh HK)))
      have HO355 := am (Kd.S_lower ho1 (keep_size (zh HK)))
      replace BK340 := am (blk_below (zk BK340) hb)
      replace BK341 := am (blk_below (zk BK341) hb)
      replace BK348 := am (blk_below (zk BK348) hb)
      replace HI0 := am (IsS93.below (zi HI0) hb)
      replace BK363 := am (blk_below (zk BK363) hb)
      replace HK := am (KeepBut.trans (zh HK) (KeepBut.of_below hb g none) (.inl rfl))
      replace HB := am (below_step (zb HB) hb)
      (try clear hb)
      (try clear hb2)
      (try clear hk)
      (try clear hi)
      (try clear ho0)
      (try clear ho1)
      obtain ⟨Ao27, co27, eo27⟩ := Kd.R_slice HO352.out
      (first | subst eo27 | (injection eo27 with f1_ f2_ f3_; have f4_ := f1_.symm; have f5_ := f3_.symm; clear f1_ f2_ f3_; subst f4_; subst f5_))
      obtain ⟨Ao28, co28, eo28⟩ := Kd.S_slice HO355.out
      (first | subst eo28 | (injection eo28 with f1_ f2_ f3_; have f4_ := f1_.symm; have f5_ := f3_.symm; clear f1_ f2_ f3_; subst f4_; subst f5_))
      refine hK.out _ _ ⟨ce0 BK340, ce1 BK340, ce0 BK348, ce1 BK348, ce2 BK348, ce3 BK348, ce4 BK348⟩ (fun hHeld => ?_)
      clear hK K
      refine norm_ (a' := ?_) ?_ ?_
      rotate_left
      · show Act.put _ (some 19) _ = _
        simp only [Act.put, List.setIfInBounds_toArray, List.set_cons_zero, List.set_cons_succ, i64_w, i32_w]
        rfl
      refine oz 3 10 143 rfl rfl (fun K hK => ?_)
      refine gs Try.func81 #[.agg #[.slice Ao27 t350.length co27, .slice Ao28 t353.length co28], .agg #[.int .i64 x349000_1, .string x349001_1, .string x349002_1, .int .i64 x349003_1, .string x349004_1]] rfl rfl ?_
      with_reducible refine (spec_l12Do.callsB k1 (fun k_ => some k_ = (.slice Ao27 t350.length co27 : Value).ownBlock) (.slice Ao27 t350.length co27) t350 (fun k_ => some k_ = (.slice Ao28 t353.length co28 : Value).ownBlock) (.slice Ao28 t353.length co28) t353 x349000_1 x349001_1 x349002_1 x349003_1 x349004_1 t356 t359 true w0 _ w.heap.size ?side1 HL.out ?sbw ?side2 ?side3 A22.out).mono ?_
      (case side1 => exact zb HB)
      (case side2 => exact Kd.R_tight rfl HO352.out)
      (case side3 => exact Kd.S_mono (HO355.out) (fun _ _ => trivial))
      (case sbw => exact keep_size (w := w) (g := g) (row := none) (zh HK))
      rintro e w29 ⟨v357, v360, rfl, ho0, ho1, hb, hkp⟩
      refine ⟨_, rfl, ?_⟩
      replace BK340 := am (blk_kept (zk BK340) hkp (fun hs_ => Or.elim hs_ (fun e_ => (fun e_ => (Kd.R_ne HO352.out BK340.out (by decide)) e_) e_) (fun e_ => (fun e_ => (Kd.S_ne HO355.out BK340.out (by decide)) e_) e_)))
      replace BK341 := am (blk_kept (zk BK341) hkp (fun hs_ => Or.elim hs_ (fun e_ => (fun e_ => (Kd.R_ne HO352.out BK341.out (by decide)) e_) e_) (fun e_ => (fun e_ => (Kd.S_ne HO355.out BK341.out (by decide)) e_) e_)))
      replace BK348 := am (blk_kept (zk BK348) hkp (fun hs_ => Or.elim hs_ (fun e_ => (fun e_ => (Kd.R_ne HO352.out BK348.out (by decide)) e_) e_) (fun e_ => (fun e_ => (Kd.S_ne HO355.out BK348.out (by decide)) e_) e_)))
      replace HI0 := am (IsS93.kept (zi HI0) hkp (fun hs_ => Or.elim hs_ (fun e_ => (fun e_ => (IsS93.own_ne HI0.out HO352.out (by decide)) e_) e_) (fun e_ => (fun e_ => (IsS93.own_neS HI0.out HO355.out (by decide)) e_) e_)))
      replace BK363 := am (blk_kept (zk BK363) hkp (fun hs_ => Or.elim hs_ (fun e_ => (fun e_ => (Kd.R_ne HO352.out BK363.out (by decide)) e_) e_) (fun e_ => (fun e_ => (Kd.S_ne HO355.out BK363.out (by decide)) e_) e_)))
      have HO358 := am (ho0)
      have HO361 := am (ho1)
      replace HK := am (Kept.keepG (zh HK) hkp (fun k_ hs_ => Or.elim hs_ (fun e_ => (fun e_ => .inr (Kd.R_base HO352.out k_ e_.symm)) e_) (fun e_ => (fun e_ => .inr (Kd.S_base HO355.out k_ e_.symm)) e_)))
      replace HB := am (hb)
      clear HO352 HO355
      (try clear hb)
      (try clear hkp)
      (try clear ho0)
      (try clear ho1)
      refine hK.out _ _ ⟨ce0 BK340, ce1 BK340, ce0 BK348, ce1 BK348, ce2 BK348, ce3 BK348, ce4 BK348⟩ (fun hHeld => ?_)
      clear hK K
      refine norm_ (a' := ?_) ?_ ?_
      rotate_left
      · show Act.put _ (some 21) _ = _
        simp only [Act.put, List.setIfInBounds_toArray, List.set_cons_zero, List.set_cons_succ, i64_w, i32_w]
        rfl
      refine pu 4 17 10 159 rfl rfl ?_
      refine pu 5 22 10 191 rfl rfl ?_
      refine pu 6 23 10 255 rfl rfl ?_
      exact norm_ (by simp only [putAll, Act.put, List.setIfInBounds_toArray, List.set_cons_zero, List.set_cons_succ]) (hCont (.slice Ao27 t350.length co27, .slice Ao28 t353.length co28, v357, v360, gb363) _ ⟨hHeld, (zr HO358), (zs HO361), (zk BK340), (zk BK341), (zk BK348), (zk BK363), GW363.out, GE363.out, NB0_363.out, NB363_0.out, NB340_363.out, NB363_340.out, NB341_363.out, NB363_341.out, NB348_363.out, NB363_348.out, (zi HI0), (zh HK), (zb HB)⟩)
    rintro ⟨v351, v354, v357, v360, gb363⟩ w30 ⟨hS_, h0_, h1_, h2_, h3_, h4_, h5_, h6_, h7_, h8_, h9_, h10_, h11_, h12_, h13_, h14_, h15_, h16_, h17_, h18_⟩
    have HO358 : Aside0 (Kd.R k55 55 w30 w.heap.size (fun _ => True) v357 t356) := ⟨h0_⟩
    have HO361 : Aside0 (Kd.S k38 38 w30 w.heap.size (fun _ => True) v360 t359) := ⟨h1_⟩
    replace BK340 : Aside0 (w30.heap[gb340]? = some (.cells #[.slice A1_0 l1_0.length c1_0, .slice A1_1 l1_1.length c1_1] 31 (0, 0))) := ⟨h2_⟩
    replace BK341 : Aside0 (w30.heap[gb341]? = some (.cells #[.int .i64 x342000_1, .string x342001_1, .string x342002_1, .int .i64 x342003_1, .string x342004_1] 103 (0, 0))) := ⟨h3_⟩
    replace BK348 : Aside0 (w30.heap[gb348]? = some (.cells #[.int .i64 x349000_1, .string x349001_1, .string x349002_1, .int .i64 x349003_1, .string x349004_1] 103 (0, 0))) := ⟨h4_⟩
    have BK363 : Aside0 (w30.heap[gb363]? = some (.cells #[.slice none 0 0, .slice none 0 0] 31 (0, 0))) := ⟨h5_⟩
    have GW363 : Aside0 (w.heap.size ≤ gb363) := ⟨h6_⟩
    have GE363 : Aside0 (w0.heap.size ≤ gb363) := ⟨h7_⟩
    have NB0_363 : Aside0 (g ≠ gb363) := ⟨h8_⟩
    have NB363_0 : Aside0 (gb363 ≠ g) := ⟨h9_⟩
    have NB340_363 : Aside0 (gb340 ≠ gb363) := ⟨h10_⟩
    have NB363_340 : Aside0 (gb363 ≠ gb340) := ⟨h11_⟩
    have NB341_363 : Aside0 (gb341 ≠ gb363) := ⟨h12_⟩
    have NB363_341 : Aside0 (gb363 ≠ gb341) := ⟨h13_⟩
    have NB348_363 : Aside0 (gb348 ≠ gb363) := ⟨h14_⟩
    have NB363_348 : Aside0 (gb363 ≠ gb348) := ⟨h15_⟩
    replace HI0 : Aside0 (IsS93 w0 w30 g s0_0 x1001_1) := ⟨h16_⟩
    replace HK : Aside0 (KeepBut w w30 g none) := ⟨h17_⟩
    replace HB : Aside0 (Below w0.heap.size w0 w30) := ⟨h18_⟩
    clear h0_ h1_ h2_ h3_ h4_ h5_ h6_ h7_ h8_ h9_ h10_ h11_ h12_ h13_ h14_ h15_ h16_ h17_ h18_
    have hHeld : w30.cell? ⟨gb340, 0, none⟩ = some (.slice A1_0 l1_0.length c1_0) ∧ w30.cell? ⟨gb340, 1, none⟩ = some (.slice A1_1 l1_1.length c1_1) ∧ w30.cell? ⟨gb348, 0, none⟩ = some (.int .i64 x349000_1) ∧ w30.cell? ⟨gb348, 1, none⟩ = some (.string x349001_1) ∧ w30.cell? ⟨gb348, 2, none⟩ = some (.string x349002_1) ∧ w30.cell? ⟨gb348, 3, none⟩ = some (.int .i64 x349003_1) ∧ w30.cell? ⟨gb348, 4, none⟩ = some (.string x349004_1) := hS_
    obtain ⟨Ao31, co31, eo31⟩ := Kd.R_slice HO358.out
    (first | subst eo31 | (injection eo31 with f1_ f2_ f3_; have f4_ := f1_.symm; have f5_ := f3_.symm; clear f1_ f2_ f3_; subst f4_; subst f5_))
    obtain ⟨Ao33, co33, eo33⟩ := Kd.S_slice HO361.out
    (first | subst eo33 | (injection eo33 with f1_ f2_ f3_; have f4_ := f1_.symm; have f5_ := f3_.symm; clear f1_ f2_ f3_; subst f4_; subst f5_))
    refine norm_ (a' := ?_) ?_ ?_
    rotate_left
    · simp only [putAll, Act.put, List.setIfInBounds_toArray, List.set_cons_zero, List.set_cons_succ]
      rfl
    refine oz 8 10 511 rfl rfl (fun K hK => ?_)
    have hs32 := ce0 BK363
    have hfs32 := bfz BK363 0
    have hns32_0 := NB340_363.out
    have hns32_1 := NB341_363.out
    have hns32_2 := NB348_363.out
    have hms32_0 := NB363_340.out
    have hms32_1 := NB363_341.out
    have hms32_2 := NB363_348.out
    have hs34 := ce1 BK363
    have hfs34 := bfz BK363 1
    have hns34_0 := NB340_363.out
    have hns34_1 := NB341_363.out
    have hns34_2 := NB348_363.out
    have hms34_0 := NB363_340.out
    have hms34_1 := NB363_341.out
    have hms34_2 := NB363_348.out
    refine skip_ (w1 := ?_) (by rfl) rfl ?_ ?_
    rotate_left
    · go_simp
      rfl
    refine hK.out _ _ ⟨((cell_far (p := ⟨gb363, _, none⟩) NB340_363.out _).trans (((cell_far (p := ⟨gb363, _, none⟩) NB340_363.out _).trans (hHeld.1)))), ((cell_far (p := ⟨gb363, _, none⟩) NB340_363.out _).trans (((cell_far (p := ⟨gb363, _, none⟩) NB340_363.out _).trans (hHeld.2.1)))), ((cell_far (p := ⟨gb363, _, none⟩) NB348_363.out _).trans (((cell_far (p := ⟨gb363, _, none⟩) NB348_363.out _).trans (hHeld.2.2.1)))), ((cell_far (p := ⟨gb363, _, none⟩) NB348_363.out _).trans (((cell_far (p := ⟨gb363, _, none⟩) NB348_363.out _).trans (hHeld.2.2.2.1)))), ((cell_far (p := ⟨gb363, _, none⟩) NB348_363.out _).trans (((cell_far (p := ⟨gb363, _, none⟩) NB348_363.out _).trans (hHeld.2.2.2.2.1)))), ((cell_far (p := ⟨gb363, _, none⟩) NB348_363.out _).trans (((cell_far (p := ⟨gb363, _, none⟩) NB348_363.out _).trans (hHeld.2.2.2.2.2.1)))), ((cell_far (p := ⟨gb363, _, none⟩) NB348_363.out _).trans (((cell_far (p := ⟨gb363, _, none⟩) NB348_363.out _).trans (hHeld.2.2.2.2.2.2))))⟩ (fun hHeld => ?_)
    clear hK K
    refine pu 9 8 10 1023 rfl rfl ?_
    refine done_ (done_of HT_.out (by kernel_rfl)) ?_
    have hnb35 := NB348_340.out
    have hnc35 := NB340_348.out
    have hnb36 := NB348_341.out
    have hnc36 := NB341_348.out
    have hnb37 := NB348_363.out
    have hnc37 := NB363_348.out
    have hnb38 := NB348_0.out
    have hnc38 := NB0_348.out
    have hcz39_0 := ce0 BK348
    have hcz39_1 := ce1 BK348
    have hcz39_2 := ce2 BK348
    have hcz39_3 := ce3 BK348
    have hcz39_4 := ce4 BK348
    have hfz39_0 := bfz BK348 0
    have hfz39_1 := bfz BK348 1
    have hfz39_2 := bfz BK348 2
    have hfz39_3 := bfz BK348 3
    have hfz39_4 := bfz BK348 4
    have hnb40 := NB341_340.out
    have hnc40 := NB340_341.out
    have hnb41 := NB341_363.out
    have hnc41 := NB363_341.out
    have hnb42 := NB341_0.out
    have hnc42 := NB0_341.out
    have hcz43_0 := ce0 BK341
    have hcz43_1 := ce1 BK341
    have hcz43_2 := ce2 BK341
    have hcz43_3 := ce3 BK341
    have hcz43_4 := ce4 BK341
    have hfz43_0 := bfz BK341 0
    have hfz43_1 := bfz BK341 1
    have hfz43_2 := bfz BK341 2
    have hfz43_3 := bfz BK341 3
    have hfz43_4 := bfz BK341 4
    try go_wp2
    refine bodyPost_ret (results_cell_row rfl _ _ gb341 103 #[.int .i64 x349000_1, .string x349001_1, .string x349002_1, .int .i64 x349003_1, .string x349004_1] (0, 0) _ rfl (zp BK341) Try.underlying103 rfl (by kernel_rfl)) rfl ?_
    exact ⟨zv, (zi HI0), (zb HB), (zh HK)⟩
   clear HC14
   try clear c1
   try clear c2
   try clear p2
   try clear c8
   try clear c20
   obtain ⟨kq, x342000_13, x342001_13, x342002_13, x342003_13, x342004_13, HA, HJ13, BK340, BK341, BK348, HI0, HK, HB⟩ := hcut
   cases kq with
   | zero => exact absurd HA.out (by simp [spec_l71Fits.j1])
   | succ kj13 =>
    have H := HA.out
    clear HA
    simp only [spec_l71Fits.j1] at H
    replace H := obs H
    obtain ⟨⟨t364, t365, t366, t367, t368, t369⟩, A550, H⟩ := H
    replace H : (if (l1_1.length : Int) > 0 then ((spec_l6Rd_pick.f kj13 s0_0 t369 3).bind fun bt370 => (if bt370.1 > 0 then ((spec_l6Rd_pick.f kj13 s0_0 bt370.2 (l1_1.length : Int)).bind fun bt372 => (if 0 ≤ bt372.1 then (if bt372.1 < (l1_1.length : Int) then (spec_l71Fits.l0 kj13 (wrap64 (x6_1 + 1)) s0_0 bt372.2 l1_0 l1_1 t364 ((rd_T38 l1_1 bt372.1).f0) t366 t367 t368) else (none)) else (none))) else (spec_l71Fits.l0 kj13 (wrap64 (x6_1 + 1)) s0_0 bt370.2 l1_0 l1_1 t364 t365 t366 t367 t368))) else (spec_l71Fits.l0 kj13 (wrap64 (x6_1 + 1)) s0_0 t369 l1_0 l1_1 t364 t365 t366 t367 t368)) = some (r1, r2, r3, r4, r5, r6) := H
    have A55 := am A550
    clear A550
    by_cases c56 : (l1_1.length : Int) > 0
    rotate_left
    · rw [if_neg c56] at H
      have c56b0 : decide (0 < (l1_1.length : Int)) = false := decide_eq_false c56
      have c56b1 : decide (0 < l1_1.length) = false := decide_eq_false (by omega)
      clear c56
      have H' := am H
      clear H
      go_wp2_with (first | ((with_reducible refine gate_callee (f := 87) rfl ?_); refine gl Try.func87 27 #[.pointer (some ⟨g, 0, none⟩)] rfl rfl rfl ?_; (with_reducible refine (spec_l71Op.calls kj13 g s0_0 x1001_1 t364 t365 t366 t367 t368 t369 w0 _ ?side1 ?side2 A55.out).mono ?_); (case side1 => exact zi HI0); (case side2 => exact zb HB); rintro e w83 ⟨rfl, hi, hb, hk⟩; refine ⟨_, rfl, ?_⟩; replace BK340 := am (KeepBut.blk hk (zk BK340) NB340_0.out (by simp)); replace BK341 := am (KeepBut.blk hk (zk BK341) NB341_0.out (by simp)); replace BK348 := am (KeepBut.blk hk (zk BK348) NB348_0.out (by simp)); replace HK := am (KeepBut.trans (zh HK) hk (.inl rfl)); replace HB := am (hb); replace HI0 := am (hi); (try clear hb); (try clear hb2); (try clear hk); (try clear hi); have hnb84 := NB348_340.out; have hnc84 := NB340_348.out; have hnb85 := NB348_341.out; have hnc85 := NB341_348.out; have hnb86 := NB348_0.out; have hnc86 := NB0_348.out; have hcz87_0 := ce0 BK348; have hcz87_1 := ce1 BK348; have hcz87_2 := ce2 BK348; have hcz87_3 := ce3 BK348; have hcz87_4 := ce4 BK348; have hfz87_0 := bfz BK348 0; have hfz87_1 := bfz BK348 1; have hfz87_2 := bfz BK348 2; have hfz87_3 := bfz BK348 3; have hfz87_4 := bfz BK348 4; have hnb88 := NB340_341.out; have hnc88 := NB341_340.out; have hnb89 := NB340_0.out; have hnc89 := NB0_340.out; have hcz90_0 := ce0 BK340; have hcz90_1 := ce1 BK340; have hfz90_0 := bfz BK340 0; have hfz90_1 := bfz BK340 1))
      go_roundg kj13
      case measure => have := HK1.out; have := HJ13.out; omega
      case rel => exact ⟨(wrap64 (x6_1 + 1)), (t369), (x342000_13), (x342001_13), (x342002_13), (x342003_13), (x342004_13), (t364), (t365), (t366), (t367), (t368), ze, H', ⟨by have := HK1.out; have := HJ13.out; omega⟩, ⟨zk BK340⟩, ⟨zk BK341⟩, ⟨zp BK348⟩, ⟨zi HI0⟩, ⟨zh HK⟩, ⟨zb HB⟩⟩
    rw [if_pos c56] at H
    have c56b0 : decide (0 < (l1_1.length : Int)) = true := decide_eq_true c56
    have c56b1 : decide (0 < l1_1.length) = true := decide_eq_true (by omega)
    clear c56
    replace H := obs H
    obtain ⟨⟨t370, t371⟩, A570, H⟩ := H
    replace H : (if t370 > 0 then ((spec_l6Rd_pick.f kj13 s0_0 t371 (l1_1.length : Int)).bind fun bt372 => (if 0 ≤ bt372.1 then (if bt372.1 < (l1_1.length : Int) then (spec_l71Fits.l0 kj13 (wrap64 (x6_1 + 1)) s0_0 bt372.2 l1_0 l1_1 t364 ((rd_T38 l1_1 bt372.1).f0) t366 t367 t368) else (none)) else (none))) else (spec_l71Fits.l0 kj13 (wrap64 (x6_1 + 1)) s0_0 t371 l1_0 l1_1 t364 t365 t366 t367 t368)) = some (r1, r2, r3, r4, r5, r6) := H
    have A57 := am A570
    clear A570
    by_cases c58 : t370 > 0
    rotate_left
    · rw [if_neg c58] at H
      have c58b0 : decide (0 < t370) = false := decide_eq_false c58
      clear c58
      have H' := am H
      clear H
      go_wp2_with (first | ((with_reducible refine gate_callee (f := 87) rfl ?_); refine gl Try.func87 27 #[.pointer (some ⟨g, 0, none⟩)] rfl rfl rfl ?_; (with_reducible refine (spec_l71Op.calls kj13 g s0_0 x1001_1 t364 t365 t366 t367 t368 t369 w0 _ ?side1 ?side2 A55.out).mono ?_); (case side1 => exact zi HI0); (case side2 => exact zb HB); rintro e w74 ⟨rfl, hi, hb, hk⟩; refine ⟨_, rfl, ?_⟩; replace BK340 := am (KeepBut.blk hk (zk BK340) NB340_0.out (by simp)); replace BK341 := am (KeepBut.blk hk (zk BK341) NB341_0.out (by simp)); replace BK348 := am (KeepBut.blk hk (zk BK348) NB348_0.out (by simp)); replace HK := am (KeepBut.trans (zh HK) hk (.inl rfl)); replace HB := am (hb); replace HI0 := am (hi); (try clear hb); (try clear hb2); (try clear hk); (try clear hi); have hnb75 := NB348_340.out; have hnc75 := NB340_348.out; have hnb76 := NB348_341.out; have hnc76 := NB341_348.out; have hnb77 := NB348_0.out; have hnc77 := NB0_348.out; have hcz78_0 := ce0 BK348; have hcz78_1 := ce1 BK348; have hcz78_2 := ce2 BK348; have hcz78_3 := ce3 BK348; have hcz78_4 := ce4 BK348; have hfz78_0 := bfz BK348 0; have hfz78_1 := bfz BK348 1; have hfz78_2 := bfz BK348 2; have hfz78_3 := bfz BK348 3; have hfz78_4 := bfz BK348 4; have hnb79 := NB340_341.out; have hnc79 := NB341_340.out; have hnb80 := NB340_0.out; have hnc80 := NB0_340.out; have hcz81_0 := ce0 BK340; have hcz81_1 := ce1 BK340; have hfz81_0 := bfz BK340 0; have hfz81_1 := bfz BK340 1) | (go_at_call 51; (with_reducible refine (spec_l6Rd_pick.calls kj13 g s0_0 t369 3 t370 t371 w0 _ ?side1 ?side2 A57.out).mono ?_); (case side1 => exact zi HI0); (case side2 => exact zb HB); rintro e w82 ⟨rfl, hi, hb, hk⟩; replace BK340 := am (KeepBut.blk hk (zk BK340) NB340_0.out (by simp)); replace BK341 := am (KeepBut.blk hk (zk BK341) NB341_0.out (by simp)); replace BK348 := am (KeepBut.blk hk (g' := gb348) (o := .cells #[.int .i64 t364, .string t365, .string t366, .int .i64 t367, .string t368] 103 (0, 0)) (zp BK348) NB348_0.out (by simp)); replace HK := am (KeepBut.trans (zh HK) hk (.inl rfl)); replace HB := am (hb); replace HI0 := am (hi); (try clear hb); (try clear hb2); (try clear hk); (try clear hi)))
      go_roundg kj13
      case measure => have := HK1.out; have := HJ13.out; omega
      case rel => exact ⟨(wrap64 (x6_1 + 1)), (t371), (x342000_13), (x342001_13), (x342002_13), (x342003_13), (x342004_13), (t364), (t365), (t366), (t367), (t368), ze, H', ⟨by have := HK1.out; have := HJ13.out; omega⟩, ⟨zk BK340⟩, ⟨zk BK341⟩, ⟨zk BK348⟩, ⟨zi HI0⟩, ⟨zh HK⟩, ⟨zb HB⟩⟩
    rw [if_pos c58] at H
    have c58b0 : decide (0 < t370) = true := decide_eq_true c58
    clear c58
    replace H := obs H
    obtain ⟨⟨t372, t373⟩, A590, H⟩ := H
    replace H : (if 0 ≤ t372 then (if t372 < (l1_1.length : Int) then (spec_l71Fits.l0 kj13 (wrap64 (x6_1 + 1)) s0_0 t373 l1_0 l1_1 t364 ((rd_T38 l1_1 t372).f0) t366 t367 t368) else (none)) else (none)) = some (r1, r2, r3, r4, r5, r6) := H
    have A59 := am A590
    clear A590
    by_cases c60 : 0 ≤ t372
    rotate_left
    · rw [if_neg c60] at H
      exact absurd H (by simp)
    rw [if_pos c60] at H
    have c60b0 : decide (0 ≤ t372) = true := decide_eq_true c60
    clear c60
    by_cases c61 : t372 < (l1_1.length : Int)
    rotate_left
    · rw [if_neg c61] at H
      exact absurd H (by simp)
    rw [if_pos c61] at H
    have c61b0 : decide (t372 < (l1_1.length : Int)) = true := decide_eq_true c61
    clear c61
    have H' := am H
    clear H
    try go_wp2_with (first | ((with_reducible refine gate_callee (f := 87) rfl ?_); refine gl Try.func87 27 #[.pointer (some ⟨g, 0, none⟩)] rfl rfl rfl ?_; (with_reducible refine (spec_l71Op.calls kj13 g s0_0 x1001_1 t364 t365 t366 t367 t368 t369 w0 _ ?side1 ?side2 A55.out).mono ?_); (case side1 => exact zi HI0); (case side2 => exact zb HB); rintro e w62 ⟨rfl, hi, hb, hk⟩; refine ⟨_, rfl, ?_⟩; replace BK340 := am (KeepBut.blk hk (zk BK340) NB340_0.out (by simp)); replace BK341 := am (KeepBut.blk hk (zk BK341) NB341_0.out (by simp)); replace BK348 := am (KeepBut.blk hk (zk BK348) NB348_0.out (by simp)); replace HK := am (KeepBut.trans (zh HK) hk (.inl rfl)); replace HB := am (hb); replace HI0 := am (hi); (try clear hb); (try clear hb2); (try clear hk); (try clear hi); have hnb63 := NB348_340.out; have hnc63 := NB340_348.out; have hnb64 := NB348_341.out; have hnc64 := NB341_348.out; have hnb65 := NB348_0.out; have hnc65 := NB0_348.out; have hcz66_0 := ce0 BK348; have hcz66_1 := ce1 BK348; have hcz66_2 := ce2 BK348; have hcz66_3 := ce3 BK348; have hcz66_4 := ce4 BK348; have hfz66_0 := bfz BK348 0; have hfz66_1 := bfz BK348 1; have hfz66_2 := bfz BK348 2; have hfz66_3 := bfz BK348 3; have hfz66_4 := bfz BK348 4; have hnb67 := NB340_341.out; have hnc67 := NB341_340.out; have hnb68 := NB340_0.out; have hnc68 := NB0_340.out; have hcz69_0 := ce0 BK340; have hcz69_1 := ce1 BK340; have hfz69_0 := bfz BK340 0; have hfz69_1 := bfz BK340 1) | (go_at_call 51; (with_reducible refine (spec_l6Rd_pick.calls kj13 g s0_0 t369 3 t370 t371 w0 _ ?side1 ?side2 A57.out).mono ?_); (case side1 => exact zi HI0); (case side2 => exact zb HB); rintro e w70 ⟨rfl, hi, hb, hk⟩; replace BK340 := am (KeepBut.blk hk (zk BK340) NB340_0.out (by simp)); replace BK341 := am (KeepBut.blk hk (zk BK341) NB341_0.out (by simp)); replace BK348 := am (KeepBut.blk hk (g' := gb348) (o := .cells #[.int .i64 t364, .string t365, .string t366, .int .i64 t367, .string t368] 103 (0, 0)) (zp BK348) NB348_0.out (by simp)); replace HK := am (KeepBut.trans (zh HK) hk (.inl rfl)); replace HB := am (hb); replace HI0 := am (hi); (try clear hb); (try clear hb2); (try clear hk); (try clear hi)))
    replace BK340 := am (blk_drew BK340.out)
    replace BK341 := am (blk_drew BK341.out)
    replace BK348 := am (blk_drew BK348.out)
    replace HI0 := am (IsS93.drew HI0.out)
    replace HK := am (keep_drew HK.out)
    replace HB := am (below_drew1 HB.out)
    have p374 : 0 ≤ (t372 : Int) := of_decide_eq_true zl
    have q374 : t372 < (l1_1.length : Int) := of_decide_eq_true zl
    obtain ⟨ad374, A374_1, c374_1, e374, hx374_0, hx374_1, hl374_1, hi374_1⟩ := at_T38 (Kd.C_foot_now HR1_1.out HK.out) t372 p374 q374
    have hw374_1 := hx374_1
    have hw374_0 := hx374_0
    cases e374
    have hne374_1 := (show (⟨(ad374.add ((t372).toNat * 2)).block, (ad374.add ((t372).toNat * 2)).off + 1, none⟩ : Addr).block ≠ g from by first | (rw [add_block]; exact Kd.foot_ne HR1_1.out (by omega) (by decide)) | (show (Addr.add _ _).block ≠ _; rw [add_block]; exact Kd.foot_ne HR1_1.out (by omega) (by decide)) | exact Kd.foot_ne HR1_1.out (by omega) (by decide) | (dsimp only; exact Kd.foot_ne HR1_1.out (by omega) (by decide)))
    have hlt374_1 := (Kd.foot_lt HR1_1.out (by omega) (by decide))
    have hne374_0 := (show ((ad374.add ((t372).toNat * 2)) : Addr).block ≠ g from by first | (rw [add_block]; exact Kd.foot_ne HR1_1.out (by omega) (by decide)) | (show (Addr.add _ _).block ≠ _; rw [add_block]; exact Kd.foot_ne HR1_1.out (by omega) (by decide)) | exact Kd.foot_ne HR1_1.out (by omega) (by decide) | (dsimp only; exact Kd.foot_ne HR1_1.out (by omega) (by decide)))
    have hlt374_0 := (Kd.foot_lt HR1_1.out (by omega) (by decide))
    have HR374_1 := am hi374_1
    have HC374_1 := am hl374_1
    clear hi374_1 hl374_1
    replace p374 := eq_true p374
    replace q374 := eq_true q374
    refine start_ (n := 12) (S := fun w' => w'.cell? ⟨gb340, 0, none⟩ = some (.slice A1_0 l1_0.length c1_0) ∧ w'.cell? ⟨gb340, 1, none⟩ = some (.slice (some ad374) l1_1.length c1_1) ∧ w'.cell? (ad374.add ((t372).toNat * 2)) = some (.string ((rd_T38 l1_1 t372).f0)) ∧ w'.cell? ⟨(ad374.add ((t372).toNat * 2)).block, (ad374.add ((t372).toNat * 2)).off + 1, none⟩ = some (.slice A374_1 ((rd_T38 l1_1 t372).f1).length c374_1)) (ds := []) (bs 12 0) (by kernel_rfl) rfl rfl ⟨ce0 BK340, ce1 BK340, hx374_0, hx374_1⟩ (fun hHeld => ?_); refine with_tabW spec_l71Fits.tab11 spec_l71Fits.bits11 (fun HT_ HW_ => ?_)
    generalize w70.drew = w71 at BK340 BK341 BK348 HI0 HK HB HR374_1 hx374_0 hx374_1 hHeld ⊢
    refine pu 0 37 12 1 rfl rfl ?_
    refine pu 2 39 12 5 rfl rfl ?_
    refine pu 3 40 12 13 rfl rfl ?_
    refine ta4 1 38 12 15 rfl rfl hHeld ?_
    refine ta4 4 41 12 31 rfl rfl hHeld ?_
    refine pu 5 42 12 63 rfl rfl ?_
    refine oz 6 12 127 rfl rfl (fun K hK => ?_)
    refine gs Try.func51 #[.pointer (some ⟨g, 0, none⟩), .int .i64 (l1_1.length : Int)] rfl rfl ?_
    with_reducible refine (spec_l6Rd_pick.calls kj13 g s0_0 t371 (l1_1.length : Int) t372 t373 w0 _ ?side1 ?side2 A59.out).mono ?_
    (case side1 => exact zi HI0)
    (case side2 => exact zb HB)
    rintro e w72 ⟨rfl, hi, hb, hk⟩
    have HS2_ := keep_cell hk (hHeld.2.2.1) (by first | (rw [add_block]; exact hne374_0) | (show (Addr.add _ _).block ≠ _; rw [add_block]; exact hne374_0) | exact hne374_0)
    have HS3_ := keep_cell hk (hHeld.2.2.2) (by first | (rw [add_block]; exact hne374_1) | (show (Addr.add _ _).block ≠ _; rw [add_block]; exact hne374_1) | exact hne374_1)
    refine ⟨_, rfl, ?_⟩
    replace BK340 := am (KeepBut.blk hk (zk BK340) NB340_0.out (by simp))
    replace BK341 := am (KeepBut.blk hk (zk BK341) NB341_0.out (by simp))
    replace BK348 := am (KeepBut.blk hk (zk BK348) NB348_0.out (by simp))
    replace HK := am (KeepBut.trans (zh HK) hk (.inl rfl))
    replace HB := am (hb)
    replace HI0 := am (hi)
    (try clear hb)
    (try clear hb2)
    (try clear hk)
    (try clear hi)
    refine hK.out _ _ ⟨ce0 BK340, ce1 BK340, HS2_, HS3_⟩ (fun hHeld => ?_)
    clear hK K
    refine norm_ (a' := ?_) ?_ ?_
    rotate_left
    · show Act.put _ (some 43) _ = _
      simp only [Act.put, List.setIfInBounds_toArray, List.set_cons_zero, List.set_cons_succ, i64_w, i32_w]
      rfl
    refine pu 7 44 12 255 rfl rfl ?_
    refine pu 8 45 12 511 rfl rfl ?_
    refine ta4 9 46 12 1023 rfl rfl hHeld ?_
    refine pu 10 47 12 2047 rfl rfl ?_
    refine oz 11 12 4095 rfl rfl (fun K hK => ?_)
    have hs73 := ce1 BK348
    have hfs73 := bfz BK348 1
    have hns73_0 := NB340_348.out
    have hns73_1 := NB341_348.out
    have hms73_0 := NB348_340.out
    have hms73_1 := NB348_341.out
    refine skip_ (w1 := ?_) (by rfl) rfl ?_ ?_
    rotate_left
    · go_simp
      rfl
    refine hK.out _ _ ⟨((cell_far (p := ⟨gb348, _, none⟩) NB340_348.out _).trans (hHeld.1)), ((cell_far (p := ⟨gb348, _, none⟩) NB340_348.out _).trans (hHeld.2.1)), ((cell_far (p := ⟨gb348, _, none⟩) (by first | exact Nat.ne_of_lt (Nat.lt_of_lt_of_le hlt374_0 GW348.out) | (rw [add_block]; exact Nat.ne_of_lt (Nat.lt_of_lt_of_le hlt374_0 GW348.out)) | (show (Addr.add _ _).block ≠ _; rw [add_block]; exact Nat.ne_of_lt (Nat.lt_of_lt_of_le hlt374_0 GW348.out)) | (dsimp only; exact Nat.ne_of_lt (Nat.lt_of_lt_of_le hlt374_0 GW348.out))) _).trans (hHeld.2.2.1)), ((cell_far (p := ⟨gb348, _, none⟩) (by first | exact Nat.ne_of_lt (Nat.lt_of_lt_of_le hlt374_1 GW348.out) | (rw [add_block]; exact Nat.ne_of_lt (Nat.lt_of_lt_of_le hlt374_1 GW348.out)) | (show (Addr.add _ _).block ≠ _; rw [add_block]; exact Nat.ne_of_lt (Nat.lt_of_lt_of_le hlt374_1 GW348.out)) | (dsimp only; exact Nat.ne_of_lt (Nat.lt_of_lt_of_le hlt374_1 GW348.out))) _).trans (hHeld.2.2.2))⟩ (fun hHeld => ?_)
    clear hK K
    refine done_ (done_of HT_.out (by kernel_rfl)) ?_
    try go_wp2
    go_roundg kj13
    case measure => have := HK1.out; have := HJ13.out; omega
    case rel => exact ⟨(wrap64 (x6_1 + 1)), (t373), (x342000_13), (x342001_13), (x342002_13), (x342003_13), (x342004_13), (t364), ((rd_T38 l1_1 t372).f0), (t366), (t367), (t368), ze, H', ⟨by have := HK1.out; have := HJ13.out; omega⟩, ⟨zk BK340⟩, ⟨zk BK341⟩, ⟨zp BK348⟩, ⟨zi HI0⟩, ⟨zh HK⟩, ⟨zb HB⟩⟩
end Go.Proofs.Ytooamacekmjpaaa.PFnVolCount
