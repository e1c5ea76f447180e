/- The walk: each function that the law comes to as a plain Lean function, and a proof that the Go code answers so. Written by this session's program over the kit's printer. -/
import Derived.Test.YtooamacekmjpaaaZ
import Derived.Test.YtooamacekmjpaaaQFnPoolOnce0
import Derived.Test.YtooamacekmjpaaaQFnPoolOnce7
import Derived.Test.YtooamacekmjpaaaQFnPoolOnce8
import Derived.Test.YtooamacekmjpaaaQFnPoolOnce11
import Derived.Test.YtooamacekmjpaaaQFnPoolOnce12
namespace Go.Proofs.Ytooamacekmjpaaa.PFnPoolOnce
open Go.RowKit Go.Proofs.YtooamacekmjpaaaW.PrintWords Go.Proofs.YtooamacekmjpaaaW.PrintLast Go.Proofs.YtooamacekmjpaaaW.PrintMore
attribute [local go_sem] max2_int min2_int max_two min_two max_three min_three max_four min_four   -- for this text's walks alone
set_option linter.unusedVariables false
set_option linter.unusedSimpArgs false
/-! ### spec_l71Fits: function 80 -/
mutual
def spec_l71Fits.l0 : Nat → Int → List Int → Int → List (S55) → List (S38) → Int → ByteArray → ByteArray → Int → ByteArray → Option (Int × ByteArray × ByteArray × Int × ByteArray × Int)
 | 0, _, _, _, _, _, _, _, _, _, _ => none
 | k + 1, x6, x1000, x1001, x381000, x381001, x389000, x389001, x389002, x389003, x389004 => if x6 < 8 then ((spec_OpOk.f k x389000 x389001 x389002 x389003 x389004).bind fun t389 => (if t389 = true then ((spec_l11Copy.f k x381000 x381001).bind fun bt390 => ((spec_l12Do.f k bt390.1 bt390.2 x389000 x389001 x389002 x389003 x389004).bind fun bt396 => (if bt396.2.2 = true then (some (x389000, x389001, x389002, x389003, x389004, x1001)) else (spec_l71Fits.j1 k x6 x1000 x1001 x381000 x381001)))) else (spec_l71Fits.j1 k x6 x1000 x1001 x381000 x381001))) else (some (x389000, x389001, x389002, x389003, x389004, x1001))
def spec_l71Fits.j1 : Nat → Int → List Int → Int → List (S55) → List (S38) → Option (Int × ByteArray × ByteArray × Int × ByteArray × Int)
 | 0, _, _, _, _, _ => none
 | k + 1, x6, x1000, x1001, x381000, x381001 => (spec_l71Op.f k x1000 x1001).bind fun bt404 => (if (x381001.length : Int) > 0 then ((spec_l6Rd_pick.f k x1000 bt404.2.2.2.2.2 3).bind fun bt410 => (if bt410.1 > 0 then ((spec_l6Rd_pick.f k x1000 bt410.2 (x381001.length : Int)).bind fun bt412 => (if 0 ≤ bt412.1 then (if bt412.1 < (x381001.length : Int) then (spec_l71Fits.l0 k (wrap64 (x6 + 1)) x1000 bt412.2 x381000 x381001 bt404.1 ((rd_T38 x381001 bt412.1).f0) bt404.2.2.1 bt404.2.2.2.1 bt404.2.2.2.2.1) else (none)) else (none))) else (spec_l71Fits.l0 k (wrap64 (x6 + 1)) x1000 bt410.2 x381000 x381001 bt404.1 bt404.2.1 bt404.2.2.1 bt404.2.2.2.1 bt404.2.2.2.2.1))) else (spec_l71Fits.l0 k (wrap64 (x6 + 1)) x1000 bt404.2.2.2.2.2 x381000 x381001 bt404.1 bt404.2.1 bt404.2.2.1 bt404.2.2.2.1 bt404.2.2.2.2.1))
end
def spec_l71Fits.f (k : Nat) (s0_0 : List Int) (s0_1 : Int) (l1_0 : List (S55)) (l1_1 : List (S38)) : Option (Int × ByteArray × ByteArray × Int × ByteArray × Int) := (spec_l71Op.f k s0_0 s0_1).bind fun bt382 => (spec_l71Fits.l0 k 0 s0_0 bt382.2.2.2.2.2 l1_0 l1_1 bt382.1 bt382.2.1 bt382.2.2.1 bt382.2.2.2.1 bt382.2.2.2.2.1)
theorem spec_l71Fits.mono_l : ∀ k, (∀ y0 y1 y2 y3 y4 y5 y6 y7 y8 y9, LeO (spec_l71Fits.l0 k y0 y1 y2 y3 y4 y5 y6 y7 y8 y9) (spec_l71Fits.l0 (k + 1) y0 y1 y2 y3 y4 y5 y6 y7 y8 y9)) ∧ (∀ y0 y1 y2 y3 y4, LeO (spec_l71Fits.j1 k y0 y1 y2 y3 y4) (spec_l71Fits.j1 (k + 1) y0 y1 y2 y3 y4))
 | 0 => ⟨fun _ _ _ _ _ _ _ _ _ _ r h => by simp [spec_l71Fits.l0] at h, fun _ _ _ _ _ r h => by simp [spec_l71Fits.j1] at h⟩
 | k + 1 => by
  obtain ⟨ih0, ih1⟩ := spec_l71Fits.mono_l k
  refine ⟨?_, ?_⟩
  · intro y0 y1 y2 y3 y4 y5 y6 y7 y8 y9
    unfold spec_l71Fits.l0
    repeat' first
    | (with_reducible exact ih0 _ _ _ _ _ _ _ _ _ _)
    | (with_reducible exact ih1 _ _ _ _ _)
    | (with_reducible exact spec_OpOk.mono _ _ _ _ _ _)
    | (with_reducible exact spec_l11Copy.mono _ _ _)
    | (with_reducible exact spec_l12Do.mono _ _ _ _ _ _ _ _)
    | (with_reducible exact spec_l6Rd_pick.mono _ _ _ _)
    | (with_reducible exact spec_l71Op.mono _ _ _)
    | (with_reducible exact LeO.refl _)
    | (with_reducible exact LeO.none _)
    | (with_reducible refine LeO.ite ?_ ?_)
    | (with_reducible refine LeO.bind ?_ (fun _ => ?_))
    | exact ih0 _ _ _ _ _ _ _ _ _ _
    | exact ih1 _ _ _ _ _
    | exact spec_OpOk.mono _ _ _ _ _ _
    | exact spec_l11Copy.mono _ _ _
    | exact spec_l12Do.mono _ _ _ _ _ _ _ _
    | exact spec_l6Rd_pick.mono _ _ _ _
    | exact spec_l71Op.mono _ _ _
    | exact LeO.none _
    | refine LeO.ite ?_ ?_
    | refine LeO.bind ?_ (fun _ => ?_)
  intro y0 y1 y2 y3 y4
  unfold spec_l71Fits.j1
  repeat' first
  | (with_reducible exact ih0 _ _ _ _ _ _ _ _ _ _)
  | (with_reducible exact ih1 _ _ _ _ _)
  | (with_reducible exact spec_OpOk.mono _ _ _ _ _ _)
  | (with_reducible exact spec_l11Copy.mono _ _ _)
  | (with_reducible exact spec_l12Do.mono _ _ _ _ _ _ _ _)
  | (with_reducible exact spec_l6Rd_pick.mono _ _ _ _)
  | (with_reducible exact spec_l71Op.mono _ _ _)
  | (with_reducible exact LeO.refl _)
  | (with_reducible exact LeO.none _)
  | (with_reducible refine LeO.ite ?_ ?_)
  | (with_reducible refine LeO.bind ?_ (fun _ => ?_))
  | exact ih0 _ _ _ _ _ _ _ _ _ _
  | exact ih1 _ _ _ _ _
  | exact spec_OpOk.mono _ _ _ _ _ _
  | exact spec_l11Copy.mono _ _ _
  | exact spec_l12Do.mono _ _ _ _ _ _ _ _
  | exact spec_l6Rd_pick.mono _ _ _ _
  | exact spec_l71Op.mono _ _ _
  | exact LeO.none _
  | refine LeO.ite ?_ ?_
  | refine LeO.bind ?_ (fun _ => ?_)
theorem spec_l71Fits.mono : ∀ a0 a1 a2 a3 k, LeO (spec_l71Fits.f k a0 a1 a2 a3) (spec_l71Fits.f (k + 1) a0 a1 a2 a3) := by
 intro a0 a1 a2 a3 k
 obtain ⟨ih0, ih1⟩ := spec_l71Fits.mono_l k
 unfold spec_l71Fits.f
 repeat' first
  | (with_reducible exact ih0 _ _ _ _ _ _ _ _ _ _)
  | (with_reducible exact ih1 _ _ _ _ _)
  | (with_reducible exact spec_OpOk.mono _ _ _ _ _ _)
  | (with_reducible exact spec_l11Copy.mono _ _ _)
  | (with_reducible exact spec_l12Do.mono _ _ _ _ _ _ _ _)
  | (with_reducible exact spec_l6Rd_pick.mono _ _ _ _)
  | (with_reducible exact spec_l71Op.mono _ _ _)
  | (with_reducible exact LeO.refl _)
  | (with_reducible exact LeO.none _)
  | (with_reducible refine LeO.ite ?_ ?_)
  | (with_reducible refine LeO.bind ?_ (fun _ => ?_))
  | exact ih0 _ _ _ _ _ _ _ _ _ _
  | exact ih1 _ _ _ _ _
  | exact spec_OpOk.mono _ _ _ _ _ _
  | exact spec_l11Copy.mono _ _ _
  | exact spec_l12Do.mono _ _ _ _ _ _ _ _
  | exact spec_l6Rd_pick.mono _ _ _ _
  | exact spec_l71Op.mono _ _ _
  | exact LeO.none _
  | refine LeO.ite ?_ ?_
  | refine LeO.bind ?_ (fun _ => ?_)
def spec_l71Fits.T6 : Bool × List (List Nat × List Nat) := (true, [([], []), ([0], [0]), ([], []), ([1, 2, 1], [1, 2]), ([3], [3]), ([4], [4]), ([4], [4]), ([], []), ([7, 5, 3, 0, 1, 2, 3, 4, 5, 7], [5, 7]), ([6, 8, 0, 1, 2, 3, 4, 5, 6, 7, 8], [6])])
def spec_l71Fits.B6 : List Nat := [0, 1, 0, 7, 15, 31, 31, 0, 191, 511]
theorem spec_l71Fits.tab6 : rtab .any (opsOf Try.f80 6) = spec_l71Fits.T6 := by kernel_rfl
theorem spec_l71Fits.bits6 : waitsOk spec_l71Fits.T6.2 spec_l71Fits.B6 = true := by kernel_rfl
def spec_l71Fits.T11 : Bool × List (List Nat × List Nat) := (true, [([], []), ([0], [0]), ([], []), ([], []), ([3], [3]), ([4], [4]), ([2, 5], [2, 5]), ([1, 6], [1, 6]), ([7], [7]), ([8], [8]), ([0, 1, 2, 3, 4, 5, 6, 7, 8, 9], []), ([10, 9, 6, 0, 1, 2, 3, 4, 5, 6, 7, 8, 9], [9, 10])])
def spec_l71Fits.B11 : List Nat := [0, 1, 0, 0, 8, 24, 60, 127, 255, 511, 1023, 2047]
theorem spec_l71Fits.tab11 : rtab .any (opsOf Try.f80 11) = spec_l71Fits.T11 := by kernel_rfl
theorem spec_l71Fits.bits11 : waitsOk spec_l71Fits.T11.2 spec_l71Fits.B11 = true := by kernel_rfl
set_option maxHeartbeats 8000000 in
set_option maxRecDepth 100000 in
theorem spec_l71Fits.calls (k : Nat) (g : Nat) (s0_0 : List Int) (s0_1 : Int) (A1_0 : Option Addr) (c1_0 : Nat) (l1_0 : List (S55)) (A1_1 : Option Addr) (c1_1 : Nat) (l1_1 : List (S38)) (r1 : Int) (r2 : ByteArray) (r3 : ByteArray) (r4 : Int) (r5 : ByteArray) (r6 : Int) (w0 w : World) (hI : IsS93 w0 w g s0_0 s0_1) (hB : Below w0.heap.size w0 w) (hr1_0 : ∀ W_, KeepBut w W_ g none → Kd.C k55 W_ A1_0 l1_0.length l1_0) (hc1_0 : l1_0.length ≤ c1_0) (hr1_1 : ∀ W_, KeepBut w W_ g none → Kd.C k38 W_ A1_1 l1_1.length l1_1) (hc1_1 : l1_1.length ≤ c1_1) (h : spec_l71Fits.f k s0_0 s0_1 l1_0 l1_1 = some (r1, r2, r3, r4, r5, r6)) :
 Calls Try.prog 80 #[.pointer (some ⟨g, 0, none⟩), .agg #[.slice A1_0 l1_0.length c1_0, .slice A1_1 l1_1.length c1_1]] w fun e w' => e = .returned (.agg #[.int .i64 r1, .string r2, .string r3, .int .i64 r4, .string r5]) ∧ IsS93 w0 w' g s0_0 r6 ∧ Below w0.heap.size w0 w' ∧ KeepBut w w' g none := by
 have hu31 := Try.underlying31
 have hu103 := Try.underlying103
 have HR1_0 := am hr1_0
 have HC1_0 := am hc1_0
 clear hr1_0 hc1_0
 have HR1_1 := am hr1_1
 have HC1_1 := am hc1_1
 clear hr1_1 hc1_1
 have HI0 := am hI
 have HK := am (KeepBut.refl w g none)
 have HL := am hB.size
 clear hI
 have HW0 := am hB.size
 have HB := am hB
 clear hB
 have H : ((spec_l71Op.f k s0_0 s0_1).bind fun bt382 => (spec_l71Fits.l0 k 0 s0_0 bt382.2.2.2.2.2 l1_0 l1_1 bt382.1 bt382.2.1 bt382.2.2.1 bt382.2.2.2.1 bt382.2.2.2.2.1)) = some (r1, r2, r3, r4, r5, r6) := h
 clear h
 replace H := obs H
 obtain ⟨⟨t382, t383, t384, t385, t386, t387⟩, A30, H⟩ := H
 replace H : (spec_l71Fits.l0 k 0 s0_0 t387 l1_0 l1_1 t382 t383 t384 t385 t386) = some (r1, r2, r3, r4, r5, r6) := H
 have A3 := am A30
 clear A30
 have H' := am H
 clear H
 go_enter Try.func80, Try.ntmps80
 go_wp2_with (first | ((with_reducible refine gate_dst (N := 3) rfl ?_); refine bx 31 #[.slice A1_0 l1_0.length c1_0, .slice A1_1 l1_1.length c1_1] ?_; intro gb380 hg w4 hbox hb; replace HB := am (below_step (zb HB) hb); have BK380 := am (hbox); have GW380 := am (zm hg (zh HK)); have GE380 := am ((Nat.le_trans HW0.out (zm hg (zh HK)))); replace HK := am (KeepBut.trans (zh HK) (KeepBut.of_below hb g none) (.inl rfl)); have NB0_380 := am (ix hg (zi HI0)); have NB380_0 := am (iy hg (zi HI0)); replace HI0 := am (IsS93.below (zi HI0) hb); clear hb hbox hg) | ((with_reducible refine gate_dst (N := 4) rfl ?_); refine bx 103 #[.int .i64 0, .string (⟨#[]⟩ : ByteArray), .string (⟨#[]⟩ : ByteArray), .int .i64 0, .string (⟨#[]⟩ : ByteArray)] ?_; intro gb381 hg w5 hbox hb; replace HB := am (below_step (zb HB) hb); have BK381 := am (hbox); have GW381 := am (zm hg (zh HK)); have GE381 := am ((Nat.le_trans HW0.out (zm hg (zh HK)))); replace HK := am (KeepBut.trans (zh HK) (KeepBut.of_below hb g none) (.inl rfl)); have NB380_381 := am (zx hg (zk BK380)); have NB381_380 := am (zy hg (zk BK380)); replace BK380 := am (blk_below (zk BK380) hb); have NB0_381 := am (ix hg (zi HI0)); have NB381_0 := am (iy hg (zi HI0)); replace HI0 := am (IsS93.below (zi HI0) hb); clear hb hbox hg) | ((with_reducible refine gate_callee (f := 87) rfl ?_); refine gl Try.func87 10 #[.pointer (some ⟨g, 0, none⟩)] rfl rfl rfl ?_; (with_reducible refine (spec_l71Op.calls k g s0_0 s0_1 t382 t383 t384 t385 t386 t387 w0 _ ?side1 ?side2 A3.out).mono ?_); (case side1 => exact zi HI0); (case side2 => exact zb HB); rintro e w6 ⟨rfl, hi, hb, hk⟩; refine ⟨_, rfl, ?_⟩; replace BK380 := am (KeepBut.blk hk (zk BK380) NB380_0.out (by simp)); replace BK381 := am (KeepBut.blk hk (zk BK381) NB381_0.out (by simp)); replace HK := am (KeepBut.trans (zh HK) hk (.inl rfl)); replace HB := am (hb); replace HI0 := am (hi); (try clear hb); (try clear hb2); (try clear hk); (try clear hi)) | ((with_reducible refine gate_dst (N := 5) rfl ?_); refine bx 103 #[.int .i64 0, .string (⟨#[]⟩ : ByteArray), .string (⟨#[]⟩ : ByteArray), .int .i64 0, .string (⟨#[]⟩ : ByteArray)] ?_; intro gb388 hg w7 hbox hb; replace HB := am (below_step (zb HB) hb); have BK388 := am (hbox); have GW388 := am (zm hg (zh HK)); have GE388 := am ((Nat.le_trans HW0.out (zm hg (zh HK)))); replace HK := am (KeepBut.trans (zh HK) (KeepBut.of_below hb g none) (.inl rfl)); have NB380_388 := am (zx hg (zk BK380)); have NB388_380 := am (zy hg (zk BK380)); replace BK380 := am (blk_below (zk BK380) hb); have NB381_388 := am (zx hg (zk BK381)); have NB388_381 := am (zy hg (zk BK381)); replace BK381 := am (blk_below (zk BK381) hb); have NB0_388 := am (ix hg (zi HI0)); have NB388_0 := am (iy hg (zi HI0)); replace HI0 := am (IsS93.below (zi HI0) hb); clear hb hbox hg; have hnb8 := NB388_380.out; have hnc8 := NB380_388.out; have hnb9 := NB388_381.out; have hnc9 := NB381_388.out; have hnb10 := NB388_0.out; have hnc10 := NB0_388.out; have hcz11_0 := ce0 BK388; have hcz11_1 := ce1 BK388; have hcz11_2 := ce2 BK388; have hcz11_3 := ce3 BK388; have hcz11_4 := ce4 BK388; have hfz11_0 := bfz BK388 0; have hfz11_1 := bfz BK388 1; have hfz11_2 := bfz BK388 2; have hfz11_3 := bfz BK388 3; have hfz11_4 := bfz BK388 4))
 go_loopg [6] k (fun kq v6 w' => ∃ (x6_1 : Int) (x1001_1 : Int) (x382000_1 : Int) (x382001_1 : ByteArray) (x382002_1 : ByteArray) (x382003_1 : Int) (x382004_1 : ByteArray) (x389000_1 : Int) (x389001_1 : ByteArray) (x389002_1 : ByteArray) (x389003_1 : Int) (x389004_1 : ByteArray), v6 = .int .i64 x6_1 ∧ Aside0 (spec_l71Fits.l0 kq x6_1 s0_0 x1001_1 l1_0 l1_1 x389000_1 x389001_1 x389002_1 x389003_1 x389004_1 = some (r1, r2, r3, r4, r5, r6)) ∧ Aside0 (kq ≤ k) ∧ Aside0 (w'.heap[gb380]? = some (.cells #[(.slice A1_0 l1_0.length c1_0), (.slice A1_1 l1_1.length c1_1)] 31 (0, 0))) ∧ Aside0 (w'.heap[gb381]? = some (.cells #[.int .i64 x382000_1, .string x382001_1, .string x382002_1, .int .i64 x382003_1, .string x382004_1] 103 (0, 0))) ∧ Aside0 (w'.heap[gb388]? = some (.cells #[.int .i64 x389000_1, .string x389001_1, .string x389002_1, .int .i64 x389003_1, .string x389004_1] 103 (0, 0))) ∧ Aside0 (IsS93 w0 w' g s0_0 x1001_1) ∧ Aside0 (KeepBut w w' g none) ∧ Aside0 (Below w0.heap.size w0 w'))
 case atStart => exact ⟨(0), (t387), (0), ((⟨#[]⟩ : ByteArray)), ((⟨#[]⟩ : ByteArray)), (0), ((⟨#[]⟩ : ByteArray)), (t382), (t383), (t384), (t385), (t386), ze, H', ⟨Nat.le_refl _⟩, ⟨zk BK380⟩, ⟨zk BK381⟩, ⟨zp BK388⟩, ⟨zi HI0⟩, ⟨zh HK⟩, ⟨zb HB⟩⟩
 case round =>
  clear H'
  try clear c1
  try clear p2
  try clear c8
  try clear c9
  try clear c10
  try clear hcz11_0
  try clear hcz11_1
  try clear hcz11_2
  try clear hcz11_3
  try clear hcz11_4
  try clear hfz11_0
  try clear hfz11_1
  try clear hfz11_2
  try clear hfz11_3
  try clear hfz11_4
  obtain ⟨x6_1, x1001_1, x382000_1, x382001_1, x382002_1, x382003_1, x382004_1, x389000_1, x389001_1, x389002_1, x389003_1, x389004_1, rfl, HA, HK1, BK380, BK381, BK388, HI0, HK, HB⟩ := hrel
  cases gk with
  | zero => exact absurd HA.out (by simp [spec_l71Fits.l0])
  | succ k1 =>
   have H := HA.out
   clear HA
   simp only [spec_l71Fits.l0] at H
   by_cases c12 : x6_1 < 8
   rotate_left
   · rw [if_neg c12] at H
     have c12b0 : decide (x6_1 < 8) = false := decide_eq_false c12
     clear c12
     simp only [Option.some.injEq, Prod.mk.injEq] at H
     obtain ⟨rfl, rfl, rfl, rfl, rfl, rfl⟩ := H
     have hnb91 := NB388_380.out
     have hnc91 := NB380_388.out
     have hnb92 := NB388_381.out
     have hnc92 := NB381_388.out
     have hnb93 := NB388_0.out
     have hnc93 := NB0_388.out
     have hcz94_0 := ce0 BK388
     have hcz94_1 := ce1 BK388
     have hcz94_2 := ce2 BK388
     have hcz94_3 := ce3 BK388
     have hcz94_4 := ce4 BK388
     have hfz94_0 := bfz BK388 0
     have hfz94_1 := bfz BK388 1
     have hfz94_2 := bfz BK388 2
     have hfz94_3 := bfz BK388 3
     have hfz94_4 := bfz BK388 4
     have hnb95 := NB381_380.out
     have hnc95 := NB380_381.out
     have hnb96 := NB381_0.out
     have hnc96 := NB0_381.out
     have hcz97_0 := ce0 BK381
     have hcz97_1 := ce1 BK381
     have hcz97_2 := ce2 BK381
     have hcz97_3 := ce3 BK381
     have hcz97_4 := ce4 BK381
     have hfz97_0 := bfz BK381 0
     have hfz97_1 := bfz BK381 1
     have hfz97_2 := bfz BK381 2
     have hfz97_3 := bfz BK381 3
     have hfz97_4 := bfz BK381 4
     go_wp2
     refine bodyPost_ret (results_cell_row rfl _ _ gb381 103 #[.int .i64 x389000_1, .string x389001_1, .string x389002_1, .int .i64 x389003_1, .string x389004_1] (0, 0) _ rfl (zp BK381) Try.underlying103 rfl (by kernel_rfl)) rfl ?_
     exact ⟨zv, (zi HI0), (zb HB), (zh HK)⟩
   rw [if_pos c12] at H
   have c12b0 : decide (x6_1 < 8) = true := decide_eq_true c12
   clear c12
   replace H := obs H
   obtain ⟨t389, A130, H⟩ := H
   replace H : (if t389 = true then ((spec_l11Copy.f k1 l1_0 l1_1).bind fun bt390 => ((spec_l12Do.f k1 bt390.1 bt390.2 x389000_1 x389001_1 x389002_1 x389003_1 x389004_1).bind fun bt396 => (if bt396.2.2 = true then (some (x389000_1, x389001_1, x389002_1, x389003_1, x389004_1, x1001_1)) else (spec_l71Fits.j1 k1 x6_1 s0_0 x1001_1 l1_0 l1_1)))) else (spec_l71Fits.j1 k1 x6_1 s0_0 x1001_1 l1_0 l1_1)) = some (r1, r2, r3, r4, r5, r6) := H
   have A13 := am A130
   clear A130
   have HC14 := am H
   clear H
   have hnb15 := NB388_380.out
   have hnc15 := NB380_388.out
   have hnb16 := NB388_381.out
   have hnc16 := NB381_388.out
   have hnb17 := NB388_0.out
   have hnc17 := NB0_388.out
   have hcz18_0 := ce0 BK388
   have hcz18_1 := ce1 BK388
   have hcz18_2 := ce2 BK388
   have hcz18_3 := ce3 BK388
   have hcz18_4 := ce4 BK388
   have hfz18_0 := bfz BK388 0
   have hfz18_1 := bfz BK388 1
   have hfz18_2 := bfz BK388 2
   have hfz18_3 := bfz BK388 3
   have hfz18_4 := bfz BK388 4
   go_upto_if 16 with (first | ((with_reducible refine gate_callee (f := 83) rfl ?_); refine gl Try.func83 16 #[.agg #[.int .i64 x389000_1, .string x389001_1, .string x389002_1, .int .i64 x389003_1, .string x389004_1]] rfl rfl rfl ?_; (with_reducible refine (spec_OpOk.calls k1 x389000_1 x389001_1 x389002_1 x389003_1 x389004_1 t389 _ A13.out).mono ?_); rintro e w19 ⟨rfl, hb⟩; refine ⟨_, rfl, ?_⟩; replace BK380 := am (blk_below (zk BK380) hb); replace BK381 := am (blk_below (zk BK381) hb); replace BK388 := am (blk_below (zk BK388) hb); replace HI0 := am (IsS93.below (zi HI0) hb); replace HK := am (KeepBut.trans (zh HK) (KeepBut.of_below hb g none) (.inl rfl)); replace HB := am (below_step (zb HB) hb); (try clear hb); (try clear hb2); (try clear hk); (try clear hi)))
   (try simp only [Act.put, List.setIfInBounds_toArray, List.set_cons_zero, List.set_cons_succ])
   go_cut [] (fun wc => ∃ (kq : Nat) (x382000_13 : Int) (x382001_13 : ByteArray) (x382002_13 : ByteArray) (x382003_13 : Int) (x382004_13 : ByteArray), Aside0 (spec_l71Fits.j1 kq x6_1 s0_0 x1001_1 l1_0 l1_1 = some (r1, r2, r3, r4, r5, r6)) ∧ Aside0 (kq ≤ k1) ∧ Aside0 (wc.heap[gb380]? = some (.cells #[(.slice A1_0 l1_0.length c1_0), (.slice A1_1 l1_1.length c1_1)] 31 (0, 0))) ∧ Aside0 (wc.heap[gb381]? = some (.cells #[.int .i64 x382000_13, .string x382001_13, .string x382002_13, .int .i64 x382003_13, .string x382004_13] 103 (0, 0))) ∧ Aside0 (wc.heap[gb388]? = some (.cells #[.int .i64 x389000_1, .string x389001_1, .string x389002_1, .int .i64 x389003_1, .string x389004_1] 103 (0, 0))) ∧ Aside0 (IsS93 w0 wc g s0_0 x1001_1) ∧ Aside0 (KeepBut w wc g none) ∧ Aside0 (Below w0.heap.size w0 wc))
   case first =>
    have H := HC14.out
    clear HC14
    by_cases c20 : t389 = true
    rotate_left
    · replace c20 := Bool.eq_false_iff.mpr c20
      subst c20
      have H1 : (spec_l71Fits.j1 k1 x6_1 s0_0 x1001_1 l1_0 l1_1) = some (r1, r2, r3, r4, r5, r6) := by rw [if_neg (show ¬ (false = true) by decide)] at H; exact H
      clear H
      have H := H1
      clear H1
      have H' := am H
      clear H
      go_wp2
      go_meet
      case rel => exact ⟨_, (x382000_1), (x382001_1), (x382002_1), (x382003_1), (x382004_1), H', ⟨by have := HK1.out; first | omega | exact Nat.le_refl _⟩, ⟨zk BK380⟩, ⟨zk BK381⟩, ⟨zk BK388⟩, ⟨zi HI0⟩, ⟨zh HK⟩, ⟨zb HB⟩⟩
    subst c20
    have H1 : ((spec_l11Copy.f k1 l1_0 l1_1).bind fun bt390 => ((spec_l12Do.f k1 bt390.1 bt390.2 x389000_1 x389001_1 x389002_1 x389003_1 x389004_1).bind fun bt396 => (if bt396.2.2 = true then (some (x389000_1, x389001_1, x389002_1, x389003_1, x389004_1, x1001_1)) else (spec_l71Fits.j1 k1 x6_1 s0_0 x1001_1 l1_0 l1_1)))) = some (r1, r2, r3, r4, r5, r6) := by rw [if_pos rfl] at H; exact H
    clear H
    have H := H1
    clear H1
    replace H := obs H
    obtain ⟨⟨t390, t393⟩, A210, H⟩ := H
    replace H : ((spec_l12Do.f k1 t390 t393 x389000_1 x389001_1 x389002_1 x389003_1 x389004_1).bind fun bt396 => (if bt396.2.2 = true then (some (x389000_1, x389001_1, x389002_1, x389003_1, x389004_1, x1001_1)) else (spec_l71Fits.j1 k1 x6_1 s0_0 x1001_1 l1_0 l1_1))) = some (r1, r2, r3, r4, r5, r6) := H
    have A21 := am A210
    clear A210
    replace H := obs H
    obtain ⟨⟨t396, t399, t402⟩, A220, H⟩ := H
    replace H : (if t402 = true then (some (x389000_1, x389001_1, x389002_1, x389003_1, x389004_1, x1001_1)) else (spec_l71Fits.j1 k1 x6_1 s0_0 x1001_1 l1_0 l1_1)) = some (r1, r2, r3, r4, r5, r6) := H
    have A22 := am A220
    clear A220
    by_cases c23 : t402 = true
    rotate_left
    · replace c23 := Bool.eq_false_iff.mpr c23
      subst c23
      have H1 : (spec_l71Fits.j1 k1 x6_1 s0_0 x1001_1 l1_0 l1_1) = some (r1, r2, r3, r4, r5, r6) := by rw [if_neg (show ¬ (false = true) by decide)] at H; exact H
      clear H
      have H := H1
      clear H1
      have H' := am H
      clear H
      try go_wp2
      replace BK380 := am (blk_drew BK380.out)
      replace BK381 := am (blk_drew BK381.out)
      replace BK388 := am (blk_drew BK388.out)
      replace HI0 := am (IsS93.drew HI0.out)
      replace HK := am (keep_drew HK.out)
      replace HB := am (below_drew1 HB.out)
      refine start_ (n := 10) (S := fun w' => w'.cell? ⟨gb380, 0, none⟩ = some (.slice A1_0 l1_0.length c1_0) ∧ w'.cell? ⟨gb380, 1, none⟩ = some (.slice A1_1 l1_1.length c1_1) ∧ w'.cell? ⟨gb388, 0, none⟩ = some (.int .i64 x389000_1) ∧ w'.cell? ⟨gb388, 1, none⟩ = some (.string x389001_1) ∧ w'.cell? ⟨gb388, 2, none⟩ = some (.string x389002_1) ∧ w'.cell? ⟨gb388, 3, none⟩ = some (.int .i64 x389003_1) ∧ w'.cell? ⟨gb388, 4, none⟩ = some (.string x389004_1)) (ds := []) (bs 10 0) (by kernel_rfl) rfl rfl ⟨ce0 BK380, ce1 BK380, ce0 BK388, ce1 BK388, ce2 BK388, ce3 BK388, ce4 BK388⟩ (fun hHeld => ?_); refine with_tabW spec_l71Fits.tab6 spec_l71Fits.bits6 (fun HT_ HW_ => ?_)
      generalize w19.drew = w44 at BK380 BK381 BK388 HI0 HK HB hHeld ⊢
      refine ta7 0 18 10 1 rfl rfl hHeld ?_
      refine ta7 2 20 10 5 rfl rfl hHeld ?_
      refine join_ (σ := Value × Value × Value × Value × Nat) 2 (bs 10 255) (fun s_ => [(19, .agg #[s_.1, s_.2.1]), (21, .tuple #[.agg #[s_.2.2.1, s_.2.2.2.1], .bool false]), (7, .pointer (some ⟨s_.2.2.2.2, 0, none⟩)), (17, .tuple #[.agg #[s_.2.2.1, s_.2.2.2.1], .bool false]), (22, .agg #[s_.2.2.1, s_.2.2.2.1]), (23, .bool false)]) (fun s_ w' => (w'.cell? ⟨gb380, 0, none⟩ = some (.slice A1_0 l1_0.length c1_0) ∧ w'.cell? ⟨gb380, 1, none⟩ = some (.slice A1_1 l1_1.length c1_1) ∧ w'.cell? ⟨gb388, 0, none⟩ = some (.int .i64 x389000_1) ∧ w'.cell? ⟨gb388, 1, none⟩ = some (.string x389001_1) ∧ w'.cell? ⟨gb388, 2, none⟩ = some (.string x389002_1) ∧ w'.cell? ⟨gb388, 3, none⟩ = some (.int .i64 x389003_1) ∧ w'.cell? ⟨gb388, 4, none⟩ = some (.string x389004_1)) ∧ (Kd.R k55 55 w' w.heap.size (fun _ => True) s_.2.2.1 t396) ∧ (Kd.S k38 38 w' w.heap.size (fun _ => True) s_.2.2.2.1 t399) ∧ (w'.heap[gb380]? = some (.cells #[.slice A1_0 l1_0.length c1_0, .slice A1_1 l1_1.length c1_1] 31 (0, 0))) ∧ (w'.heap[gb381]? = some (.cells #[.int .i64 x382000_1, .string x382001_1, .string x382002_1, .int .i64 x382003_1, .string x382004_1] 103 (0, 0))) ∧ (w'.heap[gb388]? = some (.cells #[.int .i64 x389000_1, .string x389001_1, .string x389002_1, .int .i64 x389003_1, .string x389004_1] 103 (0, 0))) ∧ (w'.heap[s_.2.2.2.2]? = some (.cells #[.slice none 0 0, .slice none 0 0] 31 (0, 0))) ∧ (w.heap.size ≤ s_.2.2.2.2) ∧ (w0.heap.size ≤ s_.2.2.2.2) ∧ (g ≠ s_.2.2.2.2) ∧ (s_.2.2.2.2 ≠ g) ∧ (gb380 ≠ s_.2.2.2.2) ∧ (s_.2.2.2.2 ≠ gb380) ∧ (gb381 ≠ s_.2.2.2.2) ∧ (s_.2.2.2.2 ≠ gb381) ∧ (gb388 ≠ s_.2.2.2.2) ∧ (s_.2.2.2.2 ≠ gb388) ∧ (IsS93 w0 w' g s0_0 x1001_1) ∧ (KeepBut w w' g none) ∧ (Below w0.heap.size w0 w')) ?_ ?_
      rotate_left
      · intro hCont
        refine two_ (i := 1) (j := 7) (Ni := some 19) (Nj := some 7) (bs 10 7) (bs 10 133) rfl rfl rfl rfl (two_of HT_.out (by kernel_rfl)) (by decide) (by decide) (fun K hK => ?_) (fun K hK => ?_)
        · skip
          refine gs Try.func82 #[.agg #[.slice A1_0 l1_0.length c1_0, .slice A1_1 l1_1.length c1_1]] rfl rfl ?_
          with_reducible refine (spec_l11Copy.calls k1 _ _ l1_0 _ _ l1_1 t390 t393 _ ?side1 ?side2 ?side3 ?side4 A21.out).mono ?_
          (case side1 => exact Kd.C_foot_now HR1_0.out (zh HK))
          (case side2 => exact HC1_0.out)
          (case side3 => exact Kd.C_foot_now HR1_1.out (zh HK))
          (case side4 => exact HC1_1.out)
          rintro e w45 ⟨v391, v394, rfl, ho0, ho1, hb⟩
          refine ⟨_, rfl, ?_⟩
          have HO392 := am (Kd.R_lower ho0 (keep_size (zh HK)))
          have HO395 := am (Kd.S_lower ho1 (keep_size (zh HK)))
          replace BK380 := am (blk_below (zk BK380) hb)
          replace BK381 := am (blk_below (zk BK381) hb)
          replace BK388 := am (blk_below (zk BK388) hb)
          replace HI0 := am (IsS93.below (zi HI0) hb)
          replace HK := am (KeepBut.trans (zh HK) (KeepBut.of_below hb g none) (.inl rfl))
          replace HB := am (below_step (zb HB) hb)
          (try clear hb)
          (try clear hb2)
          (try clear hk)
          (try clear hi)
          (try clear ho0)
          (try clear ho1)
          obtain ⟨Ao46, co46, eo46⟩ := Kd.R_slice HO392.out
          (first | subst eo46 | (injection eo46 with f1_ f2_ f3_; have f4_ := f1_.symm; have f5_ := f3_.symm; clear f1_ f2_ f3_; subst f4_; subst f5_))
          obtain ⟨Ao47, co47, eo47⟩ := Kd.S_slice HO395.out
          (first | subst eo47 | (injection eo47 with f1_ f2_ f3_; have f4_ := f1_.symm; have f5_ := f3_.symm; clear f1_ f2_ f3_; subst f4_; subst f5_))
          refine hK.out _ _ ⟨ce0 BK380, ce1 BK380, ce0 BK388, ce1 BK388, ce2 BK388, ce3 BK388, ce4 BK388⟩ (fun hHeld => ?_)
          clear hK K
          refine norm_ (a' := ?_) ?_ ?_
          rotate_left
          · show Act.put _ (some 19) _ = _
            simp only [Act.put, List.setIfInBounds_toArray, List.set_cons_zero, List.set_cons_succ, i64_w, i32_w]
            rfl
          refine two_ (i := 3) (j := 7) (Ni := some 21) (Nj := some 7) (bs 10 15) (bs 10 135) rfl rfl rfl rfl (two_of HT_.out (by kernel_rfl)) (by decide) (by decide) (fun K hK => ?_) (fun K hK => ?_)
          · skip
            refine gs Try.func81 #[.agg #[.slice Ao46 t390.length co46, .slice Ao47 t393.length co47], .agg #[.int .i64 x389000_1, .string x389001_1, .string x389002_1, .int .i64 x389003_1, .string x389004_1]] rfl rfl ?_
            with_reducible refine (spec_l12Do.callsB k1 (fun k_ => some k_ = (.slice Ao46 t390.length co46 : Value).ownBlock) (.slice Ao46 t390.length co46) t390 (fun k_ => some k_ = (.slice Ao47 t393.length co47 : Value).ownBlock) (.slice Ao47 t393.length co47) t393 x389000_1 x389001_1 x389002_1 x389003_1 x389004_1 t396 t399 false w0 _ w.heap.size ?side1 HL.out ?sbw ?side2 ?side3 A22.out).mono ?_
            (case side1 => exact zb HB)
            (case side2 => exact Kd.R_tight rfl HO392.out)
            (case side3 => exact Kd.S_mono (HO395.out) (fun _ _ => trivial))
            (case sbw => exact keep_size (w := w) (g := g) (row := none) (zh HK))
            rintro e w48 ⟨v397, v400, rfl, ho0, ho1, hb, hkp⟩
            refine ⟨_, rfl, ?_⟩
            replace BK380 := am (blk_kept (zk BK380) hkp (fun hs_ => Or.elim hs_ (fun e_ => (fun e_ => (Kd.R_ne HO392.out BK380.out (by decide)) e_) e_) (fun e_ => (fun e_ => (Kd.S_ne HO395.out BK380.out (by decide)) e_) e_)))
            replace BK381 := am (blk_kept (zk BK381) hkp (fun hs_ => Or.elim hs_ (fun e_ => (fun e_ => (Kd.R_ne HO392.out BK381.out (by decide)) e_) e_) (fun e_ => (fun e_ => (Kd.S_ne HO395.out BK381.out (by decide)) e_) e_)))
            replace BK388 := am (blk_kept (zk BK388) hkp (fun hs_ => Or.elim hs_ (fun e_ => (fun e_ => (Kd.R_ne HO392.out BK388.out (by decide)) e_) e_) (fun e_ => (fun e_ => (Kd.S_ne HO395.out BK388.out (by decide)) e_) e_)))
            replace HI0 := am (IsS93.kept (zi HI0) hkp (fun hs_ => Or.elim hs_ (fun e_ => (fun e_ => (IsS93.own_ne HI0.out HO392.out (by decide)) e_) e_) (fun e_ => (fun e_ => (IsS93.own_neS HI0.out HO395.out (by decide)) e_) e_)))
            have HO398 := am (ho0)
            have HO401 := am (ho1)
            replace HK := am (Kept.keepG (zh HK) hkp (fun k_ hs_ => Or.elim hs_ (fun e_ => (fun e_ => .inr (Kd.R_base HO392.out k_ e_.symm)) e_) (fun e_ => (fun e_ => .inr (Kd.S_base HO395.out k_ e_.symm)) e_)))
            replace HB := am (hb)
            clear HO392 HO395
            (try clear hb)
            (try clear hkp)
            (try clear ho0)
            (try clear ho1)
            refine hK.out _ _ ⟨ce0 BK380, ce1 BK380, ce0 BK388, ce1 BK388, ce2 BK388, ce3 BK388, ce4 BK388⟩ (fun hHeld => ?_)
            clear hK K
            refine norm_ (a' := ?_) ?_ ?_
            rotate_left
            · show Act.put _ (some 21) _ = _
              simp only [Act.put, List.setIfInBounds_toArray, List.set_cons_zero, List.set_cons_succ, i64_w, i32_w]
              rfl
            refine pu 4 17 10 31 rfl rfl ?_
            refine pu 5 22 10 63 rfl rfl ?_
            refine pu 6 23 10 127 rfl rfl ?_
            refine oz 7 10 255 rfl rfl (fun K hK => ?_)
            refine box_step ?hg (N := 7) ?hd (cs := #[.slice none 0 0, .slice none 0 0]) (t := 31) ?hr ?_; (case hd => rfl); (case hg => rfl); (case hr => first | (go_simp; done) | (go_simp; rfl))
            intro gb403 hg w49 hbox hb
            replace HO398 := am (Kd.R_below (zr HO398) hb)
            replace HO401 := am (Kd.S_below (zs HO401) hb)
            replace HB := am (below_step (zb HB) hb)
            have BK403 := am (hbox)
            have GW403 := am (zm hg (zh HK))
            have GE403 := am ((Nat.le_trans HW0.out (zm hg (zh HK))))
            replace HK := am (KeepBut.trans (zh HK) (KeepBut.of_below hb g none) (.inl rfl))
            have NB380_403 := am (zx hg (zk BK380))
            have NB403_380 := am (zy hg (zk BK380))
            replace BK380 := am (blk_below (zk BK380) hb)
            have NB381_403 := am (zx hg (zk BK381))
            have NB403_381 := am (zy hg (zk BK381))
            replace BK381 := am (blk_below (zk BK381) hb)
            have NB388_403 := am (zx hg (zk BK388))
            have NB403_388 := am (zy hg (zk BK388))
            replace BK388 := am (blk_below (zk BK388) hb)
            have NB0_403 := am (ix hg (zi HI0))
            have NB403_0 := am (iy hg (zi HI0))
            replace HI0 := am (IsS93.below (zi HI0) hb)
            clear hb hbox hg
            refine hK.out _ _ ⟨ce0 BK380, ce1 BK380, ce0 BK388, ce1 BK388, ce2 BK388, ce3 BK388, ce4 BK388⟩ (fun hHeld => ?_)
            clear hK K
            refine norm_ (a' := ?_) ?_ ?_
            rotate_left
            · show Act.put _ (some 7) _ = _
              simp only [Act.put, List.setIfInBounds_toArray, List.set_cons_zero, List.set_cons_succ, i64_w, i32_w]
              rfl
            exact norm_ (by simp only [putAll, Act.put, List.setIfInBounds_toArray, List.set_cons_zero, List.set_cons_succ]) (hCont (.slice Ao46 t390.length co46, .slice Ao47 t393.length co47, v397, v400, gb403) _ ⟨hHeld, (zr HO398), (zs HO401), (zk BK380), (zk BK381), (zk BK388), (zk BK403), GW403.out, GE403.out, NB0_403.out, NB403_0.out, NB380_403.out, NB403_380.out, NB381_403.out, NB403_381.out, NB388_403.out, NB403_388.out, (zi HI0), (zh HK), (zb HB)⟩)
          skip
          refine box_step ?hg (N := 7) ?hd (cs := #[.slice none 0 0, .slice none 0 0]) (t := 31) ?hr ?_; (case hd => rfl); (case hg => rfl); (case hr => first | (go_simp; done) | (go_simp; rfl))
          intro gb403 hg w46 hbox hb
          replace HO392 := am (Kd.R_below (zr HO392) hb)
          replace HO395 := am (Kd.S_below (zs HO395) hb)
          replace HB := am (below_step (zb HB) hb)
          have BK403 := am (hbox)
          have GW403 := am (zm hg (zh HK))
          have GE403 := am ((Nat.le_trans HW0.out (zm hg (zh HK))))
          replace HK := am (KeepBut.trans (zh HK) (KeepBut.of_below hb g none) (.inl rfl))
          have NB380_403 := am (zx hg (zk BK380))
          have NB403_380 := am (zy hg (zk BK380))
          replace BK380 := am (blk_below (zk BK380) hb)
          have NB381_403 := am (zx hg (zk BK381))
          have NB403_381 := am (zy hg (zk BK381))
          replace BK381 := am (blk_below (zk BK381) hb)
          have NB388_403 := am (zx hg (zk BK388))
          have NB403_388 := am (zy hg (zk BK388))
          replace BK388 := am (blk_below (zk BK388) hb)
          have NB0_403 := am (ix hg (zi HI0))
          have NB403_0 := am (iy hg (zi HI0))
          replace HI0 := am (IsS93.below (zi HI0) hb)
          clear hb hbox hg
          obtain ⟨Ao47, co47, eo47⟩ := Kd.R_slice HO392.out
          (first | subst eo47 | (injection eo47 with f1_ f2_ f3_; have f4_ := f1_.symm; have f5_ := f3_.symm; clear f1_ f2_ f3_; subst f4_; subst f5_))
          obtain ⟨Ao48, co48, eo48⟩ := Kd.S_slice HO395.out
          (first | subst eo48 | (injection eo48 with f1_ f2_ f3_; have f4_ := f1_.symm; have f5_ := f3_.symm; clear f1_ f2_ f3_; subst f4_; subst f5_))
          refine hK.out _ _ ⟨ce0 BK380, ce1 BK380, ce0 BK388, ce1 BK388, ce2 BK388, ce3 BK388, ce4 BK388⟩ (fun hHeld => ?_)
          clear hK K
          refine norm_ (a' := ?_) ?_ ?_
          rotate_left
          · show Act.put _ (some 7) _ = _
            simp only [Act.put, List.setIfInBounds_toArray, List.set_cons_zero, List.set_cons_succ, i64_w, i32_w]
            rfl
          refine oz 3 10 143 rfl rfl (fun K hK => ?_)
          refine gs Try.func81 #[.agg #[.slice Ao47 t390.length co47, .slice Ao48 t393.length co48], .agg #[.int .i64 x389000_1, .string x389001_1, .string x389002_1, .int .i64 x389003_1, .string x389004_1]] rfl rfl ?_
          with_reducible refine (spec_l12Do.callsB k1 (fun k_ => some k_ = (.slice Ao47 t390.length co47 : Value).ownBlock) (.slice Ao47 t390.length co47) t390 (fun k_ => some k_ = (.slice Ao48 t393.length co48 : Value).ownBlock) (.slice Ao48 t393.length co48) t393 x389000_1 x389001_1 x389002_1 x389003_1 x389004_1 t396 t399 false w0 _ w.heap.size ?side1 HL.out ?sbw ?side2 ?side3 A22.out).mono ?_
          (case side1 => exact zb HB)
          (case side2 => exact Kd.R_tight rfl HO392.out)
          (case side3 => exact Kd.S_mono (HO395.out) (fun _ _ => trivial))
          (case sbw => exact keep_size (w := w) (g := g) (row := none) (zh HK))
          rintro e w49 ⟨v397, v400, rfl, ho0, ho1, hb, hkp⟩
          refine ⟨_, rfl, ?_⟩
          replace BK380 := am (blk_kept (zk BK380) hkp (fun hs_ => Or.elim hs_ (fun e_ => (fun e_ => (Kd.R_ne HO392.out BK380.out (by decide)) e_) e_) (fun e_ => (fun e_ => (Kd.S_ne HO395.out BK380.out (by decide)) e_) e_)))
          replace BK381 := am (blk_kept (zk BK381) hkp (fun hs_ => Or.elim hs_ (fun e_ => (fun e_ => (Kd.R_ne HO392.out BK381.out (by decide)) e_) e_) (fun e_ => (fun e_ => (Kd.S_ne HO395.out BK381.out (by decide)) e_) e_)))
          replace BK388 := am (blk_kept (zk BK388) hkp (fun hs_ => Or.elim hs_ (fun e_ => (fun e_ => (Kd.R_ne HO392.out BK388.out (by decide)) e_) e_) (fun e_ => (fun e_ => (Kd.S_ne HO395.out BK388.out (by decide)) e_) e_)))
          replace HI0 := am (IsS93.kept (zi HI0) hkp (fun hs_ => Or.elim hs_ (fun e_ => (fun e_ => (IsS93.own_ne HI0.out HO392.out (by decide)) e_) e_) (fun e_ => (fun e_ => (IsS93.own_neS HI0.out HO395.out (by decide)) e_) e_)))
          replace BK403 := am (blk_kept (zk BK403) hkp (fun hs_ => Or.elim hs_ (fun e_ => (fun e_ => (Kd.R_ne HO392.out BK403.out (by decide)) e_) e_) (fun e_ => (fun e_ => (Kd.S_ne HO395.out BK403.out (by decide)) e_) e_)))
          have HO398 := am (ho0)
          have HO401 := am (ho1)
          replace HK := am (Kept.keepG (zh HK) hkp (fun k_ hs_ => Or.elim hs_ (fun e_ => (fun e_ => .inr (Kd.R_base HO392.out k_ e_.symm)) e_) (fun e_ => (fun e_ => .inr (Kd.S_base HO395.out k_ e_.symm)) e_)))
          replace HB := am (hb)
          clear HO392 HO395
          (try clear hb)
          (try clear hkp)
          (try clear ho0)
          (try clear ho1)
          refine hK.out _ _ ⟨ce0 BK380, ce1 BK380, ce0 BK388, ce1 BK388, ce2 BK388, ce3 BK388, ce4 BK388⟩ (fun hHeld => ?_)
          clear hK K
          refine norm_ (a' := ?_) ?_ ?_
          rotate_left
          · show Act.put _ (some 21) _ = _
            simp only [Act.put, List.setIfInBounds_toArray, List.set_cons_zero, List.set_cons_succ, i64_w, i32_w]
            rfl
          refine pu 4 17 10 159 rfl rfl ?_
          refine pu 5 22 10 191 rfl rfl ?_
          refine pu 6 23 10 255 rfl rfl ?_
          exact norm_ (by simp only [putAll, Act.put, List.setIfInBounds_toArray, List.set_cons_zero, List.set_cons_succ]) (hCont (.slice Ao47 t390.length co47, .slice Ao48 t393.length co48, v397, v400, gb403) _ ⟨hHeld, (zr HO398), (zs HO401), (zk BK380), (zk BK381), (zk BK388), (zk BK403), GW403.out, GE403.out, NB0_403.out, NB403_0.out, NB380_403.out, NB403_380.out, NB381_403.out, NB403_381.out, NB388_403.out, NB403_388.out, (zi HI0), (zh HK), (zb HB)⟩)
        skip
        refine box_step ?hg (N := 7) ?hd (cs := #[.slice none 0 0, .slice none 0 0]) (t := 31) ?hr ?_; (case hd => rfl); (case hg => rfl); (case hr => first | (go_simp; done) | (go_simp; rfl))
        intro gb403 hg w45 hbox hb
        replace HB := am (below_step (zb HB) hb)
        have BK403 := am (hbox)
        have GW403 := am (zm hg (zh HK))
        have GE403 := am ((Nat.le_trans HW0.out (zm hg (zh HK))))
        replace HK := am (KeepBut.trans (zh HK) (KeepBut.of_below hb g none) (.inl rfl))
        have NB380_403 := am (zx hg (zk BK380))
        have NB403_380 := am (zy hg (zk BK380))
        replace BK380 := am (blk_below (zk BK380) hb)
        have NB381_403 := am (zx hg (zk BK381))
        have NB403_381 := am (zy hg (zk BK381))
        replace BK381 := am (blk_below (zk BK381) hb)
        have NB388_403 := am (zx hg (zk BK388))
        have NB403_388 := am (zy hg (zk BK388))
        replace BK388 := am (blk_below (zk BK388) hb)
        have NB0_403 := am (ix hg (zi HI0))
        have NB403_0 := am (iy hg (zi HI0))
        replace HI0 := am (IsS93.below (zi HI0) hb)
        clear hb hbox hg
        refine hK.out _ _ ⟨ce0 BK380, ce1 BK380, ce0 BK388, ce1 BK388, ce2 BK388, ce3 BK388, ce4 BK388⟩ (fun hHeld => ?_)
        clear hK K
        refine norm_ (a' := ?_) ?_ ?_
        rotate_left
        · show Act.put _ (some 7) _ = _
          simp only [Act.put, List.setIfInBounds_toArray, List.set_cons_zero, List.set_cons_succ, i64_w, i32_w]
          rfl
        refine oz 1 10 135 rfl rfl (fun K hK => ?_)
        refine gs Try.func82 #[.agg #[.slice A1_0 l1_0.length c1_0, .slice A1_1 l1_1.length c1_1]] rfl rfl ?_
        with_reducible refine (spec_l11Copy.calls k1 _ _ l1_0 _ _ l1_1 t390 t393 _ ?side1 ?side2 ?side3 ?side4 A21.out).mono ?_
        (case side1 => exact Kd.C_foot_now HR1_0.out (zh HK))
        (case side2 => exact HC1_0.out)
        (case side3 => exact Kd.C_foot_now HR1_1.out (zh HK))
        (case side4 => exact HC1_1.out)
        rintro e w46 ⟨v391, v394, rfl, ho0, ho1, hb⟩
        refine ⟨_, rfl, ?_⟩
        have HO392 := am (Kd.R_lower ho0 (keep_size (zh HK)))
        have HO395 := am (Kd.S_lower ho1 (keep_size (zh HK)))
        replace BK380 := am (blk_below (zk BK380) hb)
        replace BK381 := am (blk_below (zk BK381) hb)
        replace BK388 := am (blk_below (zk BK388) hb)
        replace HI0 := am (IsS93.below (zi HI0) hb)
        replace BK403 := am (blk_below (zk BK403) hb)
        replace HK := am (KeepBut.trans (zh HK) (KeepBut.of_below hb g none) (.inl rfl))
        replace HB := am (below_step (zb HB) hb)
        (try clear hb)
        (try clear hb2)
        (try clear hk)
        (try clear hi)
        (try clear ho0)
        (try clear ho1)
        obtain ⟨Ao47, co47, eo47⟩ := Kd.R_slice HO392.out
        (first | subst eo47 | (injection eo47 with f1_ f2_ f3_; have f4_ := f1_.symm; have f5_ := f3_.symm; clear f1_ f2_ f3_; subst f4_; subst f5_))
        obtain ⟨Ao48, co48, eo48⟩ := Kd.S_slice HO395.out
        (first | subst eo48 | (injection eo48 with f1_ f2_ f3_; have f4_ := f1_.symm; have f5_ := f3_.symm; clear f1_ f2_ f3_; subst f4_; subst f5_))
        refine hK.out _ _ ⟨ce0 BK380, ce1 BK380, ce0 BK388, ce1 BK388, ce2 BK388, ce3 BK388, ce4 BK388⟩ (fun hHeld => ?_)
        clear hK K
        refine norm_ (a' := ?_) ?_ ?_
        rotate_left
        · show Act.put _ (some 19) _ = _
          simp only [Act.put, List.setIfInBounds_toArray, List.set_cons_zero, List.set_cons_succ, i64_w, i32_w]
          rfl
        refine oz 3 10 143 rfl rfl (fun K hK => ?_)
        refine gs Try.func81 #[.agg #[.slice Ao47 t390.length co47, .slice Ao48 t393.length co48], .agg #[.int .i64 x389000_1, .string x389001_1, .string x389002_1, .int .i64 x389003_1, .string x389004_1]] rfl rfl ?_
        with_reducible refine (spec_l12Do.callsB k1 (fun k_ => some k_ = (.slice Ao47 t390.length co47 : Value).ownBlock) (.slice Ao47 t390.length co47) t390 (fun k_ => some k_ = (.slice Ao48 t393.length co48 : Value).ownBlock) (.slice Ao48 t393.length co48) t393 x389000_1 x389001_1 x389002_1 x389003_1 x389004_1 t396 t399 false w0 _ w.heap.size ?side1 HL.out ?sbw ?side2 ?side3 A22.out).mono ?_
        (case side1 => exact zb HB)
        (case side2 => exact Kd.R_tight rfl HO392.out)
        (case side3 => exact Kd.S_mono (HO395.out) (fun _ _ => trivial))
        (case sbw => exact keep_size (w := w) (g := g) (row := none) (zh HK))
        rintro e w49 ⟨v397, v400, rfl, ho0, ho1, hb, hkp⟩
        refine ⟨_, rfl, ?_⟩
        replace BK380 := am (blk_kept (zk BK380) hkp (fun hs_ => Or.elim hs_ (fun e_ => (fun e_ => (Kd.R_ne HO392.out BK380.out (by decide)) e_) e_) (fun e_ => (fun e_ => (Kd.S_ne HO395.out BK380.out (by decide)) e_) e_)))
        replace BK381 := am (blk_kept (zk BK381) hkp (fun hs_ => Or.elim hs_ (fun e_ => (fun e_ => (Kd.R_ne HO392.out BK381.out (by decide)) e_) e_) (fun e_ => (fun e_ => (Kd.S_ne HO395.out BK381.out (by decide)) e_) e_)))
        replace BK388 := am (blk_kept (zk BK388) hkp (fun hs_ => Or.elim hs_ (fun e_ => (fun e_ => (Kd.R_ne HO392.out BK388.out (by decide)) e_) e_) (fun e_ => (fun e_ => (Kd.S_ne HO395.out BK388.out (by decide)) e_) e_)))
        replace HI0 := am (IsS93.kept (zi HI0) hkp (fun hs_ => Or.elim hs_ (fun e_ => (fun e_ => (IsS93.own_ne HI0.out HO392.out (by decide)) e_) e_) (fun e_ => (fun e_ => (IsS93.own_neS HI0.out HO395.out (by decide)) e_) e_)))
        replace BK403 := am (blk_kept (zk BK403) hkp (fun hs_ => Or.elim hs_ (fun e_ => (fun e_ => (Kd.R_ne HO392.out BK403.out (by decide)) e_) e_) (fun e_ => (fun e_ => (Kd.S_ne HO395.out BK403.out (by decide)) e_) e_)))
        have HO398 := am (ho0)
        have HO401 := am (ho1)
        replace HK := am (Kept.keepG (zh HK) hkp (fun k_ hs_ => Or.elim hs_ (fun e_ => (fun e_ => .inr (Kd.R_base HO392.out k_ e_.symm)) e_) (fun e_ => (fun e_ => .inr (Kd.S_base HO395.out k_ e_.symm)) e_)))
        replace HB := am (hb)
        clear HO392 HO395
        (try clear hb)
        (try clear hkp)
        (try clear ho0)
        (try clear ho1)
        refine hK.out _ _ ⟨ce0 BK380, ce1 BK380, ce0 BK388, ce1 BK388, ce2 BK388, ce3 BK388, ce4 BK388⟩ (fun hHeld => ?_)
        clear hK K
        refine norm_ (a' := ?_) ?_ ?_
        rotate_left
        · show Act.put _ (some 21) _ = _
          simp only [Act.put, List.setIfInBounds_toArray, List.set_cons_zero, List.set_cons_succ, i64_w, i32_w]
          rfl
        refine pu 4 17 10 159 rfl rfl ?_
        refine pu 5 22 10 191 rfl rfl ?_
        refine pu 6 23 10 255 rfl rfl ?_
        exact norm_ (by simp only [putAll, Act.put, List.setIfInBounds_toArray, List.set_cons_zero, List.set_cons_succ]) (hCont (.slice Ao47 t390.length co47, .slice Ao48 t393.length co48, v397, v400, gb403) _ ⟨hHeld, (zr HO398), (zs HO401), (zk BK380), (zk BK381), (zk BK388), (zk BK403), GW403.out, GE403.out, NB0_403.out, NB403_0.out, NB380_403.out, NB403_380.out, NB381_403.out, NB403_381.out, NB388_403.out, NB403_388.out, (zi HI0), (zh HK), (zb HB)⟩)
      rintro ⟨v391, v394, v397, v400, gb403⟩ w50 ⟨hS_, h0_, h1_, h2_, h3_, h4_, h5_, h6_, h7_, h8_, h9_, h10_, h11_, h12_, h13_, h14_, h15_, h16_, h17_, h18_⟩
      have HO398 : Aside0 (Kd.R k55 55 w50 w.heap.size (fun _ => True) v397 t396) := ⟨h0_⟩
      have HO401 : Aside0 (Kd.S k38 38 w50 w.heap.size (fun _ => True) v400 t399) := ⟨h1_⟩
      replace BK380 : Aside0 (w50.heap[gb380]? = some (.cells #[.slice A1_0 l1_0.length c1_0, .slice A1_1 l1_1.length c1_1] 31 (0, 0))) := ⟨h2_⟩
      replace BK381 : Aside0 (w50.heap[gb381]? = some (.cells #[.int .i64 x382000_1, .string x382001_1, .string x382002_1, .int .i64 x382003_1, .string x382004_1] 103 (0, 0))) := ⟨h3_⟩
      replace BK388 : Aside0 (w50.heap[gb388]? = some (.cells #[.int .i64 x389000_1, .string x389001_1, .string x389002_1, .int .i64 x389003_1, .string x389004_1] 103 (0, 0))) := ⟨h4_⟩
      have BK403 : Aside0 (w50.heap[gb403]? = some (.cells #[.slice none 0 0, .slice none 0 0] 31 (0, 0))) := ⟨h5_⟩
      have GW403 : Aside0 (w.heap.size ≤ gb403) := ⟨h6_⟩
      have GE403 : Aside0 (w0.heap.size ≤ gb403) := ⟨h7_⟩
      have NB0_403 : Aside0 (g ≠ gb403) := ⟨h8_⟩
      have NB403_0 : Aside0 (gb403 ≠ g) := ⟨h9_⟩
      have NB380_403 : Aside0 (gb380 ≠ gb403) := ⟨h10_⟩
      have NB403_380 : Aside0 (gb403 ≠ gb380) := ⟨h11_⟩
      have NB381_403 : Aside0 (gb381 ≠ gb403) := ⟨h12_⟩
      have NB403_381 : Aside0 (gb403 ≠ gb381) := ⟨h13_⟩
      have NB388_403 : Aside0 (gb388 ≠ gb403) := ⟨h14_⟩
      have NB403_388 : Aside0 (gb403 ≠ gb388) := ⟨h15_⟩
      replace HI0 : Aside0 (IsS93 w0 w50 g s0_0 x1001_1) := ⟨h16_⟩
      replace HK : Aside0 (KeepBut w w50 g none) := ⟨h17_⟩
      replace HB : Aside0 (Below w0.heap.size w0 w50) := ⟨h18_⟩
      clear h0_ h1_ h2_ h3_ h4_ h5_ h6_ h7_ h8_ h9_ h10_ h11_ h12_ h13_ h14_ h15_ h16_ h17_ h18_
      have hHeld : w50.cell? ⟨gb380, 0, none⟩ = some (.slice A1_0 l1_0.length c1_0) ∧ w50.cell? ⟨gb380, 1, none⟩ = some (.slice A1_1 l1_1.length c1_1) ∧ w50.cell? ⟨gb388, 0, none⟩ = some (.int .i64 x389000_1) ∧ w50.cell? ⟨gb388, 1, none⟩ = some (.string x389001_1) ∧ w50.cell? ⟨gb388, 2, none⟩ = some (.string x389002_1) ∧ w50.cell? ⟨gb388, 3, none⟩ = some (.int .i64 x389003_1) ∧ w50.cell? ⟨gb388, 4, none⟩ = some (.string x389004_1) := hS_
      obtain ⟨Ao51, co51, eo51⟩ := Kd.R_slice HO398.out
      (first | subst eo51 | (injection eo51 with f1_ f2_ f3_; have f4_ := f1_.symm; have f5_ := f3_.symm; clear f1_ f2_ f3_; subst f4_; subst f5_))
      obtain ⟨Ao53, co53, eo53⟩ := Kd.S_slice HO401.out
      (first | subst eo53 | (injection eo53 with f1_ f2_ f3_; have f4_ := f1_.symm; have f5_ := f3_.symm; clear f1_ f2_ f3_; subst f4_; subst f5_))
      refine norm_ (a' := ?_) ?_ ?_
      rotate_left
      · simp only [putAll, Act.put, List.setIfInBounds_toArray, List.set_cons_zero, List.set_cons_succ]
        rfl
      refine oz 8 10 511 rfl rfl (fun K hK => ?_)
      have hs52 := ce0 BK403
      have hfs52 := bfz BK403 0
      have hns52_0 := NB380_403.out
      have hns52_1 := NB381_403.out
      have hns52_2 := NB388_403.out
      have hms52_0 := NB403_380.out
      have hms52_1 := NB403_381.out
      have hms52_2 := NB403_388.out
      have hs54 := ce1 BK403
      have hfs54 := bfz BK403 1
      have hns54_0 := NB380_403.out
      have hns54_1 := NB381_403.out
      have hns54_2 := NB388_403.out
      have hms54_0 := NB403_380.out
      have hms54_1 := NB403_381.out
      have hms54_2 := NB403_388.out
      refine skip_ (w1 := ?_) (by rfl) rfl ?_ ?_
      rotate_left
      · go_simp
        rfl
      refine hK.out _ _ ⟨((cell_far (p := ⟨gb403, _, none⟩) NB380_403.out _).trans (((cell_far (p := ⟨gb403, _, none⟩) NB380_403.out _).trans (hHeld.1)))), ((cell_far (p := ⟨gb403, _, none⟩) NB380_403.out _).trans (((cell_far (p := ⟨gb403, _, none⟩) NB380_403.out _).trans (hHeld.2.1)))), ((cell_far (p := ⟨gb403, _, none⟩) NB388_403.out _).trans (((cell_far (p := ⟨gb403, _, none⟩) NB388_403.out _).trans (hHeld.2.2.1)))), ((cell_far (p := ⟨gb403, _, none⟩) NB388_403.out _).trans (((cell_far (p := ⟨gb403, _, none⟩) NB388_403.out _).trans (hHeld.2.2.2.1)))), ((cell_far (p := ⟨gb403, _, none⟩) NB388_403.out _).trans (((cell_far (p := ⟨gb403, _, none⟩) NB388_403.out _).trans (hHeld.2.2.2.2.1)))), ((cell_far (p := ⟨gb403, _, none⟩) NB388_403.out _).trans (((cell_far (p := ⟨gb403, _, none⟩) NB388_403.out _).trans (hHeld.2.2.2.2.2.1)))), ((cell_far (p := ⟨gb403, _, none⟩) NB388_403.out _).trans (((cell_far (p := ⟨gb403, _, none⟩) NB388_403.out _).trans (hHeld.2.2.2.2.2.2))))⟩ (fun hHeld => ?_)
      clear hK K
      refine pu 9 8 10 1023 rfl rfl ?_
      refine done_ (done_of HT_.out (by kernel_rfl)) ?_
      try go_wp2
      go_meet
      case rel => exact ⟨_, (x382000_1), (x382001_1), (x382002_1), (x382003_1), (x382004_1), H', ⟨by have := HK1.out; first | omega | exact Nat.le_refl _⟩, ⟨zk BK380⟩, ⟨zk BK381⟩, ⟨zk BK388⟩, ⟨zi HI0⟩, ⟨zh HK⟩, ⟨zb HB⟩⟩
    subst c23
    have H1 : (some (x389000_1, x389001_1, x389002_1, x389003_1, x389004_1, x1001_1)) = some (r1, r2, r3, r4, r5, r6) := by rw [if_pos rfl] at H; exact H
    clear H
    have H := H1
    clear H1
    simp only [Option.some.injEq, Prod.mk.injEq] at H
    obtain ⟨rfl, rfl, rfl, rfl, rfl, rfl⟩ := H
    try go_wp2
    replace BK380 := am (blk_drew BK380.out)
    replace BK381 := am (blk_drew BK381.out)
    replace BK388 := am (blk_drew BK388.out)
    replace HI0 := am (IsS93.drew HI0.out)
    replace HK := am (keep_drew HK.out)
    replace HB := am (below_drew1 HB.out)
    refine start_ (n := 10) (S := fun w' => w'.cell? ⟨gb380, 0, none⟩ = some (.slice A1_0 l1_0.length c1_0) ∧ w'.cell? ⟨gb380, 1, none⟩ = some (.slice A1_1 l1_1.length c1_1) ∧ w'.cell? ⟨gb388, 0, none⟩ = some (.int .i64 x389000_1) ∧ w'.cell? ⟨gb388, 1, none⟩ = some (.string x389001_1) ∧ w'.cell? ⟨gb388, 2, none⟩ = some (.string x389002_1) ∧ w'.cell? ⟨gb388, 3, none⟩ = some (.int .i64 x389003_1) ∧ w'.cell? ⟨gb388, 4, none⟩ = some (.string x389004_1)) (ds := []) (bs 10 0) (by kernel_rfl) rfl rfl ⟨ce0 BK380, ce1 BK380, ce0 BK388, ce1 BK388, ce2 BK388, ce3 BK388, ce4 BK388⟩ (fun hHeld => ?_); refine with_tabW spec_l71Fits.tab6 spec_l71Fits.bits6 (fun HT_ HW_ => ?_)
    generalize w19.drew = w24 at BK380 BK381 BK388 HI0 HK HB hHeld ⊢
    refine ta7 0 18 10 1 rfl rfl hHeld ?_
    refine ta7 2 20 10 5 rfl rfl hHeld ?_
    refine join_ (σ := Value × Value × Value × Value × Nat) 2 (bs 10 255) (fun s_ => [(19, .agg #[s_.1, s_.2.1]), (21, .tuple #[.agg #[s_.2.2.1, s_.2.2.2.1], .bool true]), (7, .pointer (some ⟨s_.2.2.2.2, 0, none⟩)), (17, .tuple #[.agg #[s_.2.2.1, s_.2.2.2.1], .bool true]), (22, .agg #[s_.2.2.1, s_.2.2.2.1]), (23, .bool true)]) (fun s_ w' => (w'.cell? ⟨gb380, 0, none⟩ = some (.slice A1_0 l1_0.length c1_0) ∧ w'.cell? ⟨gb380, 1, none⟩ = some (.slice A1_1 l1_1.length c1_1) ∧ w'.cell? ⟨gb388, 0, none⟩ = some (.int .i64 x389000_1) ∧ w'.cell? ⟨gb388, 1, none⟩ = some (.string x389001_1) ∧ w'.cell? ⟨gb388, 2, none⟩ = some (.string x389002_1) ∧ w'.cell? ⟨gb388, 3, none⟩ = some (.int .i64 x389003_1) ∧ w'.cell? ⟨gb388, 4, none⟩ = some (.string x389004_1)) ∧ (Kd.R k55 55 w' w.heap.size (fun _ => True) s_.2.2.1 t396) ∧ (Kd.S k38 38 w' w.heap.size (fun _ => True) s_.2.2.2.1 t399) ∧ (w'.heap[gb380]? = some (.cells #[.slice A1_0 l1_0.length c1_0, .slice A1_1 l1_1.length c1_1] 31 (0, 0))) ∧ (w'.heap[gb381]? = some (.cells #[.int .i64 x382000_1, .string x382001_1, .string x382002_1, .int .i64 x382003_1, .string x382004_1] 103 (0, 0))) ∧ (w'.heap[gb388]? = some (.cells #[.int .i64 x389000_1, .string x389001_1, .string x389002_1, .int .i64 x389003_1, .string x389004_1] 103 (0, 0))) ∧ (w'.heap[s_.2.2.2.2]? = some (.cells #[.slice none 0 0, .slice none 0 0] 31 (0, 0))) ∧ (w.heap.size ≤ s_.2.2.2.2) ∧ (w0.heap.size ≤ s_.2.2.2.2) ∧ (g ≠ s_.2.2.2.2) ∧ (s_.2.2.2.2 ≠ g) ∧ (gb380 ≠ s_.2.2.2.2) ∧ (s_.2.2.2.2 ≠ gb380) ∧ (gb381 ≠ s_.2.2.2.2) ∧ (s_.2.2.2.2 ≠ gb381) ∧ (gb388 ≠ s_.2.2.2.2) ∧ (s_.2.2.2.2 ≠ gb388) ∧ (IsS93 w0 w' g s0_0 x1001_1) ∧ (KeepBut w w' g none) ∧ (Below w0.heap.size w0 w')) ?_ ?_
    rotate_left
    · intro hCont
      refine two_ (i := 1) (j := 7) (Ni := some 19) (Nj := some 7) (bs 10 7) (bs 10 133) rfl rfl rfl rfl (two_of HT_.out (by kernel_rfl)) (by decide) (by decide) (fun K hK => ?_) (fun K hK => ?_)
      · skip
        refine gs Try.func82 #[.agg #[.slice A1_0 l1_0.length c1_0, .slice A1_1 l1_1.length c1_1]] rfl rfl ?_
        with_reducible refine (spec_l11Copy.calls k1 _ _ l1_0 _ _ l1_1 t390 t393 _ ?side1 ?side2 ?side3 ?side4 A21.out).mono ?_
        (case side1 => exact Kd.C_foot_now HR1_0.out (zh HK))
        (case side2 => exact HC1_0.out)
        (case side3 => exact Kd.C_foot_now HR1_1.out (zh HK))
        (case side4 => exact HC1_1.out)
        rintro e w25 ⟨v391, v394, rfl, ho0, ho1, hb⟩
        refine ⟨_, rfl, ?_⟩
        have HO392 := am (Kd.R_lower ho0 (keep_size (zh HK)))
        have HO395 := am (Kd.S_lower ho1 (keep_size (zh HK)))
        replace BK380 := am (blk_below (zk BK380) hb)
        replace BK381 := am (blk_below (zk BK381) hb)
        replace BK388 := am (blk_below (zk BK388) hb)
        replace HI0 := am (IsS93.below (zi HI0) hb)
        replace HK := am (KeepBut.trans (zh HK) (KeepBut.of_below hb g none) (.inl rfl))
        replace HB := am (below_step (zb HB) hb)
        (try clear hb)
        (try clear hb2)
        (try clear hk)
        (try clear hi)
        (try clear ho0)
        (try clear ho1)
        obtain ⟨Ao26, co26, eo26⟩ := Kd.R_slice HO392.out
        (first | subst eo26 | (injection eo26 with f1_ f2_ f3_; have f4_ := f1_.symm; have f5_ := f3_.symm; clear f1_ f2_ f3_; subst f4_; subst f5_))
        obtain ⟨Ao27, co27, eo27⟩ := Kd.S_slice HO395.out
        (first | subst eo27 | (injection eo27 with f1_ f2_ f3_; have f4_ := f1_.symm; have f5_ := f3_.symm; clear f1_ f2_ f3_; subst f4_; subst f5_))
        refine hK.out _ _ ⟨ce0 BK380, ce1 BK380, ce0 BK388, ce1 BK388, ce2 BK388, ce3 BK388, ce4 BK388⟩ (fun hHeld => ?_)
        clear hK K
        refine norm_ (a' := ?_) ?_ ?_
        rotate_left
        · show Act.put _ (some 19) _ = _
          simp only [Act.put, List.setIfInBounds_toArray, List.set_cons_zero, List.set_cons_succ, i64_w, i32_w]
          rfl
        refine two_ (i := 3) (j := 7) (Ni := some 21) (Nj := some 7) (bs 10 15) (bs 10 135) rfl rfl rfl rfl (two_of HT_.out (by kernel_rfl)) (by decide) (by decide) (fun K hK => ?_) (fun K hK => ?_)
        · skip
          refine gs Try.func81 #[.agg #[.slice Ao26 t390.length co26, .slice Ao27 t393.length co27], .agg #[.int .i64 x389000_1, .string x389001_1, .string x389002_1, .int .i64 x389003_1, .string x389004_1]] rfl rfl ?_
          with_reducible refine (spec_l12Do.callsB k1 (fun k_ => some k_ = (.slice Ao26 t390.length co26 : Value).ownBlock) (.slice Ao26 t390.length co26) t390 (fun k_ => some k_ = (.slice Ao27 t393.length co27 : Value).ownBlock) (.slice Ao27 t393.length co27) t393 x389000_1 x389001_1 x389002_1 x389003_1 x389004_1 t396 t399 true w0 _ w.heap.size ?side1 HL.out ?sbw ?side2 ?side3 A22.out).mono ?_
          (case side1 => exact zb HB)
          (case side2 => exact Kd.R_tight rfl HO392.out)
          (case side3 => exact Kd.S_mono (HO395.out) (fun _ _ => trivial))
          (case sbw => exact keep_size (w := w) (g := g) (row := none) (zh HK))
          rintro e w28 ⟨v397, v400, rfl, ho0, ho1, hb, hkp⟩
          refine ⟨_, rfl, ?_⟩
          replace BK380 := am (blk_kept (zk BK380) hkp (fun hs_ => Or.elim hs_ (fun e_ => (fun e_ => (Kd.R_ne HO392.out BK380.out (by decide)) e_) e_) (fun e_ => (fun e_ => (Kd.S_ne HO395.out BK380.out (by decide)) e_) e_)))
          replace BK381 := am (blk_kept (zk BK381) hkp (fun hs_ => Or.elim hs_ (fun e_ => (fun e_ => (Kd.R_ne HO392.out BK381.out (by decide)) e_) e_) (fun e_ => (fun e_ => (Kd.S_ne HO395.out BK381.out (by decide)) e_) e_)))
          replace BK388 := am (blk_kept (zk BK388) hkp (fun hs_ => Or.elim hs_ (fun e_ => (fun e_ => (Kd.R_ne HO392.out BK388.out (by decide)) e_) e_) (fun e_ => (fun e_ => (Kd.S_ne HO395.out BK388.out (by decide)) e_) e_)))
          replace HI0 := am (IsS93.kept (zi HI0) hkp (fun hs_ => Or.elim hs_ (fun e_ => (fun e_ => (IsS93.own_ne HI0.out HO392.out (by decide)) e_) e_) (fun e_ => (fun e_ => (IsS93.own_neS HI0.out HO395.out (by decide)) e_) e_)))
          have HO398 := am (ho0)
          have HO401 := am (ho1)
          replace HK := am (Kept.keepG (zh HK) hkp (fun k_ hs_ => Or.elim hs_ (fun e_ => (fun e_ => .inr (Kd.R_base HO392.out k_ e_.symm)) e_) (fun e_ => (fun e_ => .inr (Kd.S_base HO395.out k_ e_.symm)) e_)))
          replace HB := am (hb)
          clear HO392 HO395
          (try clear hb)
          (try clear hkp)
          (try clear ho0)
          (try clear ho1)
          refine hK.out _ _ ⟨ce0 BK380, ce1 BK380, ce0 BK388, ce1 BK388, ce2 BK388, ce3 BK388, ce4 BK388⟩ (fun hHeld => ?_)
          clear hK K
          refine norm_ (a' := ?_) ?_ ?_
          rotate_left
          · show Act.put _ (some 21) _ = _
            simp only [Act.put, List.setIfInBounds_toArray, List.set_cons_zero, List.set_cons_succ, i64_w, i32_w]
            rfl
          refine pu 4 17 10 31 rfl rfl ?_
          refine pu 5 22 10 63 rfl rfl ?_
          refine pu 6 23 10 127 rfl rfl ?_
          refine oz 7 10 255 rfl rfl (fun K hK => ?_)
          refine box_step ?hg (N := 7) ?hd (cs := #[.slice none 0 0, .slice none 0 0]) (t := 31) ?hr ?_; (case hd => rfl); (case hg => rfl); (case hr => first | (go_simp; done) | (go_simp; rfl))
          intro gb403 hg w29 hbox hb
          replace HO398 := am (Kd.R_below (zr HO398) hb)
          replace HO401 := am (Kd.S_below (zs HO401) hb)
          replace HB := am (below_step (zb HB) hb)
          have BK403 := am (hbox)
          have GW403 := am (zm hg (zh HK))
          have GE403 := am ((Nat.le_trans HW0.out (zm hg (zh HK))))
          replace HK := am (KeepBut.trans (zh HK) (KeepBut.of_below hb g none) (.inl rfl))
          have NB380_403 := am (zx hg (zk BK380))
          have NB403_380 := am (zy hg (zk BK380))
          replace BK380 := am (blk_below (zk BK380) hb)
          have NB381_403 := am (zx hg (zk BK381))
          have NB403_381 := am (zy hg (zk BK381))
          replace BK381 := am (blk_below (zk BK381) hb)
          have NB388_403 := am (zx hg (zk BK388))
          have NB403_388 := am (zy hg (zk BK388))
          replace BK388 := am (blk_below (zk BK388) hb)
          have NB0_403 := am (ix hg (zi HI0))
          have NB403_0 := am (iy hg (zi HI0))
          replace HI0 := am (IsS93.below (zi HI0) hb)
          clear hb hbox hg
          refine hK.out _ _ ⟨ce0 BK380, ce1 BK380, ce0 BK388, ce1 BK388, ce2 BK388, ce3 BK388, ce4 BK388⟩ (fun hHeld => ?_)
          clear hK K
          refine norm_ (a' := ?_) ?_ ?_
          rotate_left
          · show Act.put _ (some 7) _ = _
            simp only [Act.put, List.setIfInBounds_toArray, List.set_cons_zero, List.set_cons_succ, i64_w, i32_w]
            rfl
          exact norm_ (by simp only [putAll, Act.put, List.setIfInBounds_toArray, List.set_cons_zero, List.set_cons_succ]) (hCont (.slice Ao26 t390.length co26, .slice Ao27 t393.length co27, v397, v400, gb403) _ ⟨hHeld, (zr HO398), (zs HO401), (zk BK380), (zk BK381), (zk BK388), (zk BK403), GW403.out, GE403.out, NB0_403.out, NB403_0.out, NB380_403.out, NB403_380.out, NB381_403.out, NB403_381.out, NB388_403.out, NB403_388.out, (zi HI0), (zh HK), (zb HB)⟩)
        skip
        refine box_step ?hg (N := 7) ?hd (cs := #[.slice none 0 0, .slice none 0 0]) (t := 31) ?hr ?_; (case hd => rfl); (case hg => rfl); (case hr => first | (go_simp; done) | (go_simp; rfl))
        intro gb403 hg w26 hbox hb
        replace HO392 := am (Kd.R_below (zr HO392) hb)
        replace HO395 := am (Kd.S_below (zs HO395) hb)
        replace HB := am (below_step (zb HB) hb)
        have BK403 := am (hbox)
        have GW403 := am (zm hg (zh HK))
        have GE403 := am ((Nat.le_trans HW0.out (zm hg (zh HK))))
        replace HK := am (KeepBut.trans (zh HK) (KeepBut.of_below hb g none) (.inl rfl))
        have NB380_403 := am (zx hg (zk BK380))
        have NB403_380 := am (zy hg (zk BK380))
        replace BK380 := am (blk_below (zk BK380) hb)
        have NB381_403 := am (zx hg (zk BK381))
        have NB403_381 := am (zy hg (zk BK381))
        replace BK381 := am (blk_below (zk BK381) hb)
        have NB388_403 := am (zx hg (zk BK388))
        have NB403_388 := am (zy hg (zk BK388))
        replace BK388 := am (blk_below (zk BK388) hb)
        have NB0_403 := am (ix hg (zi HI0))
        have NB403_0 := am (iy hg (zi HI0))
        replace HI0 := am (IsS93.below (zi HI0) hb)
        clear hb hbox hg
        obtain ⟨Ao27, co27, eo27⟩ := Kd.R_slice HO392.out
        (first | subst eo27 | (injection eo27 with f1_ f2_ f3_; have f4_ := f1_.symm; have f5_ := f3_.symm; clear f1_ f2_ f3_; subst f4_; subst f5_))
        obtain ⟨Ao28, co28, eo28⟩ := Kd.S_slice HO395.out
        (first | subst eo28 | (injection eo28 with f1_ f2_ f3_; have f4_ := f1_.symm; have f5_ := f3_.symm; clear f1_ f2_ f3_; subst f4_; subst f5_))
        refine hK.out _ _ ⟨ce0 BK380, ce1 BK380, ce0 BK388, ce1 BK388, ce2 BK388, ce3 BK388, ce4 BK388⟩ (fun hHeld => ?_)
        clear hK K
        refine norm_ (a' := ?_) ?_ ?_
        rotate_left
        · show Act.put _ (some 7) _ = _
          simp only [Act.put, List.setIfInBounds_toArray, List.set_cons_zero, List.set_cons_succ, i64_w, i32_w]
          rfl
        refine oz 3 10 143 rfl rfl (fun K hK => ?_)
        refine gs Try.func81 #[.agg #[.slice Ao27 t390.length co27, .slice Ao28 t393.length co28], .agg #[.int .i64 x389000_1, .string x389001_1, .string x389002_1, .int .i64 x389003_1, .string x389004_1]] rfl rfl ?_
        with_reducible refine (spec_l12Do.callsB k1 (fun k_ => some k_ = (.slice Ao27 t390.length co27 : Value).ownBlock) (.slice Ao27 t390.length co27) t390 (fun k_ => some k_ = (.slice Ao28 t393.length co28 : Value).ownBlock) (.slice Ao28 t393.length co28) t393 x389000_1 x389001_1 x389002_1 x389003_1 x389004_1 t396 t399 true w0 _ w.heap.size ?side1 HL.out ?sbw ?side2 ?side3 A22.out).mono ?_
        (case side1 => exact zb HB)
        (case side2 => exact Kd.R_tight rfl HO392.out)
        (case side3 => exact Kd.S_mono (HO395.out) (fun _ _ => trivial))
        (case sbw => exact keep_size (w := w) (g := g) (row := none) (zh HK))
        rintro e w29 ⟨v397, v400, rfl, ho0, ho1, hb, hkp⟩
        refine ⟨_, rfl, ?_⟩
        replace BK380 := am (blk_kept (zk BK380) hkp (fun hs_ => Or.elim hs_ (fun e_ => (fun e_ => (Kd.R_ne HO392.out BK380.out (by decide)) e_) e_) (fun e_ => (fun e_ => (Kd.S_ne HO395.out BK380.out (by decide)) e_) e_)))
        replace BK381 := am (blk_kept (zk BK381) hkp (fun hs_ => Or.elim hs_ (fun e_ => (fun e_ => (Kd.R_ne HO392.out BK381.out (by decide)) e_) e_) (fun e_ => (fun e_ => (Kd.S_ne HO395.out BK381.out (by decide)) e_) e_)))
        replace BK388 := am (blk_kept (zk BK388) hkp (fun hs_ => Or.elim hs_ (fun e_ => (fun e_ => (Kd.R_ne HO392.out BK388.out (by decide)) e_) e_) (fun e_ => (fun e_ => (Kd.S_ne HO395.out BK388.out (by decide)) e_) e_)))
        replace HI0 := am (IsS93.kept (zi HI0) hkp (fun hs_ => Or.elim hs_ (fun e_ => (fun e_ => (IsS93.own_ne HI0.out HO392.out (by decide)) e_) e_) (fun e_ => (fun e_ => (IsS93.own_neS HI0.out HO395.out (by decide)) e_) e_)))
        replace BK403 := am (blk_kept (zk BK403) hkp (fun hs_ => Or.elim hs_ (fun e_ => (fun e_ => (Kd.R_ne HO392.out BK403.out (by decide)) e_) e_) (fun e_ => (fun e_ => (Kd.S_ne HO395.out BK403.out (by decide)) e_) e_)))
        have HO398 := am (ho0)
        have HO401 := am (ho1)
        replace HK := am (Kept.keepG (zh HK) hkp (fun k_ hs_ => Or.elim hs_ (fun e_ => (fun e_ => .inr (Kd.R_base HO392.out k_ e_.symm)) e_) (fun e_ => (fun e_ => .inr (Kd.S_base HO395.out k_ e_.symm)) e_)))
        replace HB := am (hb)
        clear HO392 HO395
        (try clear hb)
        (try clear hkp)
        (try clear ho0)
        (try clear ho1)
        refine hK.out _ _ ⟨ce0 BK380, ce1 BK380, ce0 BK388, ce1 BK388, ce2 BK388, ce3 BK388, ce4 BK388⟩ (fun hHeld => ?_)
        clear hK K
        refine norm_ (a' := ?_) ?_ ?_
        rotate_left
        · show Act.put _ (some 21) _ = _
          simp only [Act.put, List.setIfInBounds_toArray, List.set_cons_zero, List.set_cons_succ, i64_w, i32_w]
          rfl
        refine pu 4 17 10 159 rfl rfl ?_
        refine pu 5 22 10 191 rfl rfl ?_
        refine pu 6 23 10 255 rfl rfl ?_
        exact norm_ (by simp only [putAll, Act.put, List.setIfInBounds_toArray, List.set_cons_zero, List.set_cons_succ]) (hCont (.slice Ao27 t390.length co27, .slice Ao28 t393.length co28, v397, v400, gb403) _ ⟨hHeld, (zr HO398), (zs HO401), (zk BK380), (zk BK381), (zk BK388), (zk BK403), GW403.out, GE403.out, NB0_403.out, NB403_0.out, NB380_403.out, NB403_380.out, NB381_403.out, NB403_381.out, NB388_403.out, NB403_388.out, (zi HI0), (zh HK), (zb HB)⟩)
      skip
      refine box_step ?hg (N := 7) ?hd (cs := #[.slice none 0 0, .slice none 0 0]) (t := 31) ?hr ?_; (case hd => rfl); (case hg => rfl); (case hr => first | (go_simp; done) | (go_simp; rfl))
      intro gb403 hg w25 hbox hb
      replace HB := am (below_step (zb HB) hb)
      have BK403 := am (hbox)
      have GW403 := am (zm hg (zh HK))
      have GE403 := am ((Nat.le_trans HW0.out (zm hg (zh HK))))
      replace HK := am (KeepBut.trans (zh HK) (KeepBut.of_below hb g none) (.inl rfl))
      have NB380_403 := am (zx hg (zk BK380))
      have NB403_380 := am (zy hg (zk BK380))
      replace BK380 := am (blk_below (zk BK380) hb)
      have NB381_403 := am (zx hg (zk BK381))
      have NB403_381 := am (zy hg (zk BK381))
      replace BK381 := am (blk_below (zk BK381) hb)
      have NB388_403 := am (zx hg (zk BK388))
      have NB403_388 := am (zy hg (zk BK388))
      replace BK388 := am (blk_below (zk BK388) hb)
      have NB0_403 := am (ix hg (zi HI0))
      have NB403_0 := am (iy hg (zi HI0))
      replace HI0 := am (IsS93.below (zi HI0) hb)
      clear hb hbox hg
      refine hK.out _ _ ⟨ce0 BK380, ce1 BK380, ce0 BK388, ce1 BK388, ce2 BK388, ce3 BK388, ce4 BK388⟩ (fun hHeld => ?_)
      clear hK K
      refine norm_ (a' := ?_) ?_ ?_
      rotate_left
      · show Act.put _ (some 7) _ = _
        simp only [Act.put, List.setIfInBounds_toArray, List.set_cons_zero, List.set_cons_succ, i64_w, i32_w]
        rfl
      refine oz 1 10 135 rfl rfl (fun K hK => ?_)
      refine gs Try.func82 #[.agg #[.slice A1_0 l1_0.length c1_0, .slice A1_1 l1_1.length c1_1]] rfl rfl ?_
      with_reducible refine (spec_l11Copy.calls k1 _ _ l1_0 _ _ l1_1 t390 t393 _ ?side1 ?side2 ?side3 ?side4 A21.out).mono ?_
      (case side1 => exact Kd.C_foot_now HR1_0.out (zh HK))
      (case side2 => exact HC1_0.out)
      (case side3 => exact Kd.C_foot_now HR1_1.out (zh HK))
      (case side4 => exact HC1_1.out)
      rintro e w26 ⟨v391, v394, rfl, ho0, ho1, hb⟩
      refine ⟨_, rfl, ?_⟩
      have HO392 := am (Kd.R_lower ho0 (keep_size (zh HK)))
      have HO395 := am (Kd.S_lower ho1 (keep_size (zh HK)))
      replace BK380 := am (blk_below (zk BK380) hb)
      replace BK381 := am (blk_below (zk BK381) hb)
      replace BK388 := am (blk_below (zk BK388) hb)
      replace HI0 := am (IsS93.below (zi HI0) hb)
      replace BK403 := am (blk_below (zk BK403) hb)
      replace HK := am (KeepBut.trans (zh HK) (KeepBut.of_below hb g none) (.inl rfl))
      replace HB := am (below_step (zb HB) hb)
      (try clear hb)
      (try clear hb2)
      (try clear hk)
      (try clear hi)
      (try clear ho0)
      (try clear ho1)
      obtain ⟨Ao27, co27, eo27⟩ := Kd.R_slice HO392.out
      (first | subst eo27 | (injection eo27 with f1_ f2_ f3_; have f4_ := f1_.symm; have f5_ := f3_.symm; clear f1_ f2_ f3_; subst f4_; subst f5_))
      obtain ⟨Ao28, co28, eo28⟩ := Kd.S_slice HO395.out
      (first | subst eo28 | (injection eo28 with f1_ f2_ f3_; have f4_ := f1_.symm; have f5_ := f3_.symm; clear f1_ f2_ f3_; subst f4_; subst f5_))
      refine hK.out _ _ ⟨ce0 BK380, ce1 BK380, ce0 BK388, ce1 BK388, ce2 BK388, ce3 BK388, ce4 BK388⟩ (fun hHeld => ?_)
      clear hK K
      refine norm_ (a' := ?_) ?_ ?_
      rotate_left
      · show Act.put _ (some 19) _ = _
        simp only [Act.put, List.setIfInBounds_toArray, List.set_cons_zero, List.set_cons_succ, i64_w, i32_w]
        rfl
      refine oz 3 10 143 rfl rfl (fun K hK => ?_)
      refine gs Try.func81 #[.agg #[.slice Ao27 t390.length co27, .slice Ao28 t393.length co28], .agg #[.int .i64 x389000_1, .string x389001_1, .string x389002_1, .int .i64 x389003_1, .string x389004_1]] rfl rfl ?_
      with_reducible refine (spec_l12Do.callsB k1 (fun k_ => some k_ = (.slice Ao27 t390.length co27 : Value).ownBlock) (.slice Ao27 t390.length co27) t390 (fun k_ => some k_ = (.slice Ao28 t393.length co28 : Value).ownBlock) (.slice Ao28 t393.length co28) t393 x389000_1 x389001_1 x389002_1 x389003_1 x389004_1 t396 t399 true w0 _ w.heap.size ?side1 HL.out ?sbw ?side2 ?side3 A22.out).mono ?_
      (case side1 => exact zb HB)
      (case side2 => exact Kd.R_tight rfl HO392.out)
      (case side3 => exact Kd.S_mono (HO395.out) (fun _ _ => trivial))
      (case sbw => exact keep_size (w := w) (g := g) (row := none) (zh HK))
      rintro e w29 ⟨v397, v400, rfl, ho0, ho1, hb, hkp⟩
      refine ⟨_, rfl, ?_⟩
      replace BK380 := am (blk_kept (zk BK380) hkp (fun hs_ => Or.elim hs_ (fun e_ => (fun e_ => (Kd.R_ne HO392.out BK380.out (by decide)) e_) e_) (fun e_ => (fun e_ => (Kd.S_ne HO395.out BK380.out (by decide)) e_) e_)))
      replace BK381 := am (blk_kept (zk BK381) hkp (fun hs_ => Or.elim hs_ (fun e_ => (fun e_ => (Kd.R_ne HO392.out BK381.out (by decide)) e_) e_) (fun e_ => (fun e_ => (Kd.S_ne HO395.out BK381.out (by decide)) e_) e_)))
      replace BK388 := am (blk_kept (zk BK388) hkp (fun hs_ => Or.elim hs_ (fun e_ => (fun e_ => (Kd.R_ne HO392.out BK388.out (by decide)) e_) e_) (fun e_ => (fun e_ => (Kd.S_ne HO395.out BK388.out (by decide)) e_) e_)))
      replace HI0 := am (IsS93.kept (zi HI0) hkp (fun hs_ => Or.elim hs_ (fun e_ => (fun e_ => (IsS93.own_ne HI0.out HO392.out (by decide)) e_) e_) (fun e_ => (fun e_ => (IsS93.own_neS HI0.out HO395.out (by decide)) e_) e_)))
      replace BK403 := am (blk_kept (zk BK403) hkp (fun hs_ => Or.elim hs_ (fun e_ => (fun e_ => (Kd.R_ne HO392.out BK403.out (by decide)) e_) e_) (fun e_ => (fun e_ => (Kd.S_ne HO395.out BK403.out (by decide)) e_) e_)))
      have HO398 := am (ho0)
      have HO401 := am (ho1)
      replace HK := am (Kept.keepG (zh HK) hkp (fun k_ hs_ => Or.elim hs_ (fun e_ => (fun e_ => .inr (Kd.R_base HO392.out k_ e_.symm)) e_) (fun e_ => (fun e_ => .inr (Kd.S_base HO395.out k_ e_.symm)) e_)))
      replace HB := am (hb)
      clear HO392 HO395
      (try clear hb)
      (try clear hkp)
      (try clear ho0)
      (try clear ho1)
      refine hK.out _ _ ⟨ce0 BK380, ce1 BK380, ce0 BK388, ce1 BK388, ce2 BK388, ce3 BK388, ce4 BK388⟩ (fun hHeld => ?_)
      clear hK K
      refine norm_ (a' := ?_) ?_ ?_
      rotate_left
      · show Act.put _ (some 21) _ = _
        simp only [Act.put, List.setIfInBounds_toArray, List.set_cons_zero, List.set_cons_succ, i64_w, i32_w]
        rfl
      refine pu 4 17 10 159 rfl rfl ?_
      refine pu 5 22 10 191 rfl rfl ?_
      refine pu 6 23 10 255 rfl rfl ?_
      exact norm_ (by simp only [putAll, Act.put, List.setIfInBounds_toArray, List.set_cons_zero, List.set_cons_succ]) (hCont (.slice Ao27 t390.length co27, .slice Ao28 t393.length co28, v397, v400, gb403) _ ⟨hHeld, (zr HO398), (zs HO401), (zk BK380), (zk BK381), (zk BK388), (zk BK403), GW403.out, GE403.out, NB0_403.out, NB403_0.out, NB380_403.out, NB403_380.out, NB381_403.out, NB403_381.out, NB388_403.out, NB403_388.out, (zi HI0), (zh HK), (zb HB)⟩)
    rintro ⟨v391, v394, v397, v400, gb403⟩ w30 ⟨hS_, h0_, h1_, h2_, h3_, h4_, h5_, h6_, h7_, h8_, h9_, h10_, h11_, h12_, h13_, h14_, h15_, h16_, h17_, h18_⟩
    have HO398 : Aside0 (Kd.R k55 55 w30 w.heap.size (fun _ => True) v397 t396) := ⟨h0_⟩
    have HO401 : Aside0 (Kd.S k38 38 w30 w.heap.size (fun _ => True) v400 t399) := ⟨h1_⟩
    replace BK380 : Aside0 (w30.heap[gb380]? = some (.cells #[.slice A1_0 l1_0.length c1_0, .slice A1_1 l1_1.length c1_1] 31 (0, 0))) := ⟨h2_⟩
    replace BK381 : Aside0 (w30.heap[gb381]? = some (.cells #[.int .i64 x382000_1, .string x382001_1, .string x382002_1, .int .i64 x382003_1, .string x382004_1] 103 (0, 0))) := ⟨h3_⟩
    replace BK388 : Aside0 (w30.heap[gb388]? = some (.cells #[.int .i64 x389000_1, .string x389001_1, .string x389002_1, .int .i64 x389003_1, .string x389004_1] 103 (0, 0))) := ⟨h4_⟩
    have BK403 : Aside0 (w30.heap[gb403]? = some (.cells #[.slice none 0 0, .slice none 0 0] 31 (0, 0))) := ⟨h5_⟩
    have GW403 : Aside0 (w.heap.size ≤ gb403) := ⟨h6_⟩
    have GE403 : Aside0 (w0.heap.size ≤ gb403) := ⟨h7_⟩
    have NB0_403 : Aside0 (g ≠ gb403) := ⟨h8_⟩
    have NB403_0 : Aside0 (gb403 ≠ g) := ⟨h9_⟩
    have NB380_403 : Aside0 (gb380 ≠ gb403) := ⟨h10_⟩
    have NB403_380 : Aside0 (gb403 ≠ gb380) := ⟨h11_⟩
    have NB381_403 : Aside0 (gb381 ≠ gb403) := ⟨h12_⟩
    have NB403_381 : Aside0 (gb403 ≠ gb381) := ⟨h13_⟩
    have NB388_403 : Aside0 (gb388 ≠ gb403) := ⟨h14_⟩
    have NB403_388 : Aside0 (gb403 ≠ gb388) := ⟨h15_⟩
    replace HI0 : Aside0 (IsS93 w0 w30 g s0_0 x1001_1) := ⟨h16_⟩
    replace HK : Aside0 (KeepBut w w30 g none) := ⟨h17_⟩
    replace HB : Aside0 (Below w0.heap.size w0 w30) := ⟨h18_⟩
    clear h0_ h1_ h2_ h3_ h4_ h5_ h6_ h7_ h8_ h9_ h10_ h11_ h12_ h13_ h14_ h15_ h16_ h17_ h18_
    have hHeld : w30.cell? ⟨gb380, 0, none⟩ = some (.slice A1_0 l1_0.length c1_0) ∧ w30.cell? ⟨gb380, 1, none⟩ = some (.slice A1_1 l1_1.length c1_1) ∧ w30.cell? ⟨gb388, 0, none⟩ = some (.int .i64 x389000_1) ∧ w30.cell? ⟨gb388, 1, none⟩ = some (.string x389001_1) ∧ w30.cell? ⟨gb388, 2, none⟩ = some (.string x389002_1) ∧ w30.cell? ⟨gb388, 3, none⟩ = some (.int .i64 x389003_1) ∧ w30.cell? ⟨gb388, 4, none⟩ = some (.string x389004_1) := hS_
    obtain ⟨Ao31, co31, eo31⟩ := Kd.R_slice HO398.out
    (first | subst eo31 | (injection eo31 with f1_ f2_ f3_; have f4_ := f1_.symm; have f5_ := f3_.symm; clear f1_ f2_ f3_; subst f4_; subst f5_))
    obtain ⟨Ao33, co33, eo33⟩ := Kd.S_slice HO401.out
    (first | subst eo33 | (injection eo33 with f1_ f2_ f3_; have f4_ := f1_.symm; have f5_ := f3_.symm; clear f1_ f2_ f3_; subst f4_; subst f5_))
    refine norm_ (a' := ?_) ?_ ?_
    rotate_left
    · simp only [putAll, Act.put, List.setIfInBounds_toArray, List.set_cons_zero, List.set_cons_succ]
      rfl
    refine oz 8 10 511 rfl rfl (fun K hK => ?_)
    have hs32 := ce0 BK403
    have hfs32 := bfz BK403 0
    have hns32_0 := NB380_403.out
    have hns32_1 := NB381_403.out
    have hns32_2 := NB388_403.out
    have hms32_0 := NB403_380.out
    have hms32_1 := NB403_381.out
    have hms32_2 := NB403_388.out
    have hs34 := ce1 BK403
    have hfs34 := bfz BK403 1
    have hns34_0 := NB380_403.out
    have hns34_1 := NB381_403.out
    have hns34_2 := NB388_403.out
    have hms34_0 := NB403_380.out
    have hms34_1 := NB403_381.out
    have hms34_2 := NB403_388.out
    refine skip_ (w1 := ?_) (by rfl) rfl ?_ ?_
    rotate_left
    · go_simp
      rfl
    refine hK.out _ _ ⟨((cell_far (p := ⟨gb403, _, none⟩) NB380_403.out _).trans (((cell_far (p := ⟨gb403, _, none⟩) NB380_403.out _).trans (hHeld.1)))), ((cell_far (p := ⟨gb403, _, none⟩) NB380_403.out _).trans (((cell_far (p := ⟨gb403, _, none⟩) NB380_403.out _).trans (hHeld.2.1)))), ((cell_far (p := ⟨gb403, _, none⟩) NB388_403.out _).trans (((cell_far (p := ⟨gb403, _, none⟩) NB388_403.out _).trans (hHeld.2.2.1)))), ((cell_far (p := ⟨gb403, _, none⟩) NB388_403.out _).trans (((cell_far (p := ⟨gb403, _, none⟩) NB388_403.out _).trans (hHeld.2.2.2.1)))), ((cell_far (p := ⟨gb403, _, none⟩) NB388_403.out _).trans (((cell_far (p := ⟨gb403, _, none⟩) NB388_403.out _).trans (hHeld.2.2.2.2.1)))), ((cell_far (p := ⟨gb403, _, none⟩) NB388_403.out _).trans (((cell_far (p := ⟨gb403, _, none⟩) NB388_403.out _).trans (hHeld.2.2.2.2.2.1)))), ((cell_far (p := ⟨gb403, _, none⟩) NB388_403.out _).trans (((cell_far (p := ⟨gb403, _, none⟩) NB388_403.out _).trans (hHeld.2.2.2.2.2.2))))⟩ (fun hHeld => ?_)
    clear hK K
    refine pu 9 8 10 1023 rfl rfl ?_
    refine done_ (done_of HT_.out (by kernel_rfl)) ?_
    have hnb35 := NB388_380.out
    have hnc35 := NB380_388.out
    have hnb36 := NB388_381.out
    have hnc36 := NB381_388.out
    have hnb37 := NB388_403.out
    have hnc37 := NB403_388.out
    have hnb38 := NB388_0.out
    have hnc38 := NB0_388.out
    have hcz39_0 := ce0 BK388
    have hcz39_1 := ce1 BK388
    have hcz39_2 := ce2 BK388
    have hcz39_3 := ce3 BK388
    have hcz39_4 := ce4 BK388
    have hfz39_0 := bfz BK388 0
    have hfz39_1 := bfz BK388 1
    have hfz39_2 := bfz BK388 2
    have hfz39_3 := bfz BK388 3
    have hfz39_4 := bfz BK388 4
    have hnb40 := NB381_380.out
    have hnc40 := NB380_381.out
    have hnb41 := NB381_403.out
    have hnc41 := NB403_381.out
    have hnb42 := NB381_0.out
    have hnc42 := NB0_381.out
    have hcz43_0 := ce0 BK381
    have hcz43_1 := ce1 BK381
    have hcz43_2 := ce2 BK381
    have hcz43_3 := ce3 BK381
    have hcz43_4 := ce4 BK381
    have hfz43_0 := bfz BK381 0
    have hfz43_1 := bfz BK381 1
    have hfz43_2 := bfz BK381 2
    have hfz43_3 := bfz BK381 3
    have hfz43_4 := bfz BK381 4
    try go_wp2
    refine bodyPost_ret (results_cell_row rfl _ _ gb381 103 #[.int .i64 x389000_1, .string x389001_1, .string x389002_1, .int .i64 x389003_1, .string x389004_1] (0, 0) _ rfl (zp BK381) Try.underlying103 rfl (by kernel_rfl)) rfl ?_
    exact ⟨zv, (zi HI0), (zb HB), (zh HK)⟩
   clear HC14
   try clear c1
   try clear c2
   try clear p2
   try clear c8
   try clear c20
   obtain ⟨kq, x382000_13, x382001_13, x382002_13, x382003_13, x382004_13, HA, HJ13, BK380, BK381, BK388, HI0, HK, HB⟩ := hcut
   cases kq with
   | zero => exact absurd HA.out (by simp [spec_l71Fits.j1])
   | succ kj13 =>
    have H := HA.out
    clear HA
    simp only [spec_l71Fits.j1] at H
    replace H := obs H
    obtain ⟨⟨t404, t405, t406, t407, t408, t409⟩, A550, H⟩ := H
    replace H : (if (l1_1.length : Int) > 0 then ((spec_l6Rd_pick.f kj13 s0_0 t409 3).bind fun bt410 => (if bt410.1 > 0 then ((spec_l6Rd_pick.f kj13 s0_0 bt410.2 (l1_1.length : Int)).bind fun bt412 => (if 0 ≤ bt412.1 then (if bt412.1 < (l1_1.length : Int) then (spec_l71Fits.l0 kj13 (wrap64 (x6_1 + 1)) s0_0 bt412.2 l1_0 l1_1 t404 ((rd_T38 l1_1 bt412.1).f0) t406 t407 t408) else (none)) else (none))) else (spec_l71Fits.l0 kj13 (wrap64 (x6_1 + 1)) s0_0 bt410.2 l1_0 l1_1 t404 t405 t406 t407 t408))) else (spec_l71Fits.l0 kj13 (wrap64 (x6_1 + 1)) s0_0 t409 l1_0 l1_1 t404 t405 t406 t407 t408)) = some (r1, r2, r3, r4, r5, r6) := H
    have A55 := am A550
    clear A550
    by_cases c56 : (l1_1.length : Int) > 0
    rotate_left
    · rw [if_neg c56] at H
      have c56b0 : decide (0 < (l1_1.length : Int)) = false := decide_eq_false c56
      have c56b1 : decide (0 < l1_1.length) = false := decide_eq_false (by omega)
      clear c56
      have H' := am H
      clear H
      go_wp2_with (first | ((with_reducible refine gate_callee (f := 87) rfl ?_); refine gl Try.func87 27 #[.pointer (some ⟨g, 0, none⟩)] rfl rfl rfl ?_; (with_reducible refine (spec_l71Op.calls kj13 g s0_0 x1001_1 t404 t405 t406 t407 t408 t409 w0 _ ?side1 ?side2 A55.out).mono ?_); (case side1 => exact zi HI0); (case side2 => exact zb HB); rintro e w83 ⟨rfl, hi, hb, hk⟩; refine ⟨_, rfl, ?_⟩; replace BK380 := am (KeepBut.blk hk (zk BK380) NB380_0.out (by simp)); replace BK381 := am (KeepBut.blk hk (zk BK381) NB381_0.out (by simp)); replace BK388 := am (KeepBut.blk hk (zk BK388) NB388_0.out (by simp)); replace HK := am (KeepBut.trans (zh HK) hk (.inl rfl)); replace HB := am (hb); replace HI0 := am (hi); (try clear hb); (try clear hb2); (try clear hk); (try clear hi); have hnb84 := NB388_380.out; have hnc84 := NB380_388.out; have hnb85 := NB388_381.out; have hnc85 := NB381_388.out; have hnb86 := NB388_0.out; have hnc86 := NB0_388.out; have hcz87_0 := ce0 BK388; have hcz87_1 := ce1 BK388; have hcz87_2 := ce2 BK388; have hcz87_3 := ce3 BK388; have hcz87_4 := ce4 BK388; have hfz87_0 := bfz BK388 0; have hfz87_1 := bfz BK388 1; have hfz87_2 := bfz BK388 2; have hfz87_3 := bfz BK388 3; have hfz87_4 := bfz BK388 4; have hnb88 := NB380_381.out; have hnc88 := NB381_380.out; have hnb89 := NB380_0.out; have hnc89 := NB0_380.out; have hcz90_0 := ce0 BK380; have hcz90_1 := ce1 BK380; have hfz90_0 := bfz BK380 0; have hfz90_1 := bfz BK380 1))
      go_roundg kj13
      case measure => have := HK1.out; have := HJ13.out; omega
      case rel => exact ⟨(wrap64 (x6_1 + 1)), (t409), (x382000_13), (x382001_13), (x382002_13), (x382003_13), (x382004_13), (t404), (t405), (t406), (t407), (t408), ze, H', ⟨by have := HK1.out; have := HJ13.out; omega⟩, ⟨zk BK380⟩, ⟨zk BK381⟩, ⟨zp BK388⟩, ⟨zi HI0⟩, ⟨zh HK⟩, ⟨zb HB⟩⟩
    rw [if_pos c56] at H
    have c56b0 : decide (0 < (l1_1.length : Int)) = true := decide_eq_true c56
    have c56b1 : decide (0 < l1_1.length) = true := decide_eq_true (by omega)
    clear c56
    replace H := obs H
    obtain ⟨⟨t410, t411⟩, A570, H⟩ := H
    replace H : (if t410 > 0 then ((spec_l6Rd_pick.f kj13 s0_0 t411 (l1_1.length : Int)).bind fun bt412 => (if 0 ≤ bt412.1 then (if bt412.1 < (l1_1.length : Int) then (spec_l71Fits.l0 kj13 (wrap64 (x6_1 + 1)) s0_0 bt412.2 l1_0 l1_1 t404 ((rd_T38 l1_1 bt412.1).f0) t406 t407 t408) else (none)) else (none))) else (spec_l71Fits.l0 kj13 (wrap64 (x6_1 + 1)) s0_0 t411 l1_0 l1_1 t404 t405 t406 t407 t408)) = some (r1, r2, r3, r4, r5, r6) := H
    have A57 := am A570
    clear A570
    by_cases c58 : t410 > 0
    rotate_left
    · rw [if_neg c58] at H
      have c58b0 : decide (0 < t410) = false := decide_eq_false c58
      clear c58
      have H' := am H
      clear H
      go_wp2_with (first | ((with_reducible refine gate_callee (f := 87) rfl ?_); refine gl Try.func87 27 #[.pointer (some ⟨g, 0, none⟩)] rfl rfl rfl ?_; (with_reducible refine (spec_l71Op.calls kj13 g s0_0 x1001_1 t404 t405 t406 t407 t408 t409 w0 _ ?side1 ?side2 A55.out).mono ?_); (case side1 => exact zi HI0); (case side2 => exact zb HB); rintro e w74 ⟨rfl, hi, hb, hk⟩; refine ⟨_, rfl, ?_⟩; replace BK380 := am (KeepBut.blk hk (zk BK380) NB380_0.out (by simp)); replace BK381 := am (KeepBut.blk hk (zk BK381) NB381_0.out (by simp)); replace BK388 := am (KeepBut.blk hk (zk BK388) NB388_0.out (by simp)); replace HK := am (KeepBut.trans (zh HK) hk (.inl rfl)); replace HB := am (hb); replace HI0 := am (hi); (try clear hb); (try clear hb2); (try clear hk); (try clear hi); have hnb75 := NB388_380.out; have hnc75 := NB380_388.out; have hnb76 := NB388_381.out; have hnc76 := NB381_388.out; have hnb77 := NB388_0.out; have hnc77 := NB0_388.out; have hcz78_0 := ce0 BK388; have hcz78_1 := ce1 BK388; have hcz78_2 := ce2 BK388; have hcz78_3 := ce3 BK388; have hcz78_4 := ce4 BK388; have hfz78_0 := bfz BK388 0; have hfz78_1 := bfz BK388 1; have hfz78_2 := bfz BK388 2; have hfz78_3 := bfz BK388 3; have hfz78_4 := bfz BK388 4; have hnb79 := NB380_381.out; have hnc79 := NB381_380.out; have hnb80 := NB380_0.out; have hnc80 := NB0_380.out; have hcz81_0 := ce0 BK380; have hcz81_1 := ce1 BK380; have hfz81_0 := bfz BK380 0; have hfz81_1 := bfz BK380 1) | (go_at_call 51; (with_reducible refine (spec_l6Rd_pick.calls kj13 g s0_0 t409 3 t410 t411 w0 _ ?side1 ?side2 A57.out).mono ?_); (case side1 => exact zi HI0); (case side2 => exact zb HB); rintro e w82 ⟨rfl, hi, hb, hk⟩; replace BK380 := am (KeepBut.blk hk (zk BK380) NB380_0.out (by simp)); replace BK381 := am (KeepBut.blk hk (zk BK381) NB381_0.out (by simp)); replace BK388 := am (KeepBut.blk hk (g' := gb388) (o := .cells #[.int .i64 t404, .string t405, .string t406, .int .i64 t407, .string t408] 103 (0, 0)) (zp BK388) NB388_0.out (by simp)); replace HK := am (KeepBut.trans (zh HK) hk (.inl rfl)); replace HB := am (hb); replace HI0 := am (hi); (try clear hb); (try clear hb2); (try clear hk); (try clear hi)))
      go_roundg kj13
      case measure => have := HK1.out; have := HJ13.out; omega
      case rel => exact ⟨(wrap64 (x6_1 + 1)), (t411), (x382000_13), (x382001_13), (x382002_13), (x382003_13), (x382004_13), (t404), (t405), (t406), (t407), (t408), ze, H', ⟨by have := HK1.out; have := HJ13.out; omega⟩, ⟨zk BK380⟩, ⟨zk BK381⟩, ⟨zk BK388⟩, ⟨zi HI0⟩, ⟨zh HK⟩, ⟨zb HB⟩⟩
    rw [if_pos c58] at H
    have c58b0 : decide (0 < t410) = true := decide_eq_true c58
    clear c58
    replace H := obs H
    obtain ⟨⟨t412, t413⟩, A590, H⟩ := H
    replace H : (if 0 ≤ t412 then (if t412 < (l1_1.length : Int) then (spec_l71Fits.l0 kj13 (wrap64 (x6_1 + 1)) s0_0 t413 l1_0 l1_1 t404 ((rd_T38 l1_1 t412).f0) t406 t407 t408) else (none)) else (none)) = some (r1, r2, r3, r4, r5, r6) := H
    have A59 := am A590
    clear A590
    by_cases c60 : 0 ≤ t412
    rotate_left
    · rw [if_neg c60] at H
      exact absurd H (by simp)
    rw [if_pos c60] at H
    have c60b0 : decide (0 ≤ t412) = true := decide_eq_true c60
    clear c60
    by_cases c61 : t412 < (l1_1.length : Int)
    rotate_left
    · rw [if_neg c61] at H
      exact absurd H (by simp)
    rw [if_pos c61] at H
    have c61b0 : decide (t412 < (l1_1.length : Int)) = true := decide_eq_true c61
    clear c61
    have H' := am H
    clear H
    try go_wp2_with (first | ((with_reducible refine gate_callee (f := 87) rfl ?_); refine gl Try.func87 27 #[.pointer (some ⟨g, 0, none⟩)] rfl rfl rfl ?_; (with_reducible refine (spec_l71Op.calls kj13 g s0_0 x1001_1 t404 t405 t406 t407 t408 t409 w0 _ ?side1 ?side2 A55.out).mono ?_); (case side1 => exact zi HI0); (case side2 => exact zb HB); rintro e w62 ⟨rfl, hi, hb, hk⟩; refine ⟨_, rfl, ?_⟩; replace BK380 := am (KeepBut.blk hk (zk BK380) NB380_0.out (by simp)); replace BK381 := am (KeepBut.blk hk (zk BK381) NB381_0.out (by simp)); replace BK388 := am (KeepBut.blk hk (zk BK388) NB388_0.out (by simp)); replace HK := am (KeepBut.trans (zh HK) hk (.inl rfl)); replace HB := am (hb); replace HI0 := am (hi); (try clear hb); (try clear hb2); (try clear hk); (try clear hi); have hnb63 := NB388_380.out; have hnc63 := NB380_388.out; have hnb64 := NB388_381.out; have hnc64 := NB381_388.out; have hnb65 := NB388_0.out; have hnc65 := NB0_388.out; have hcz66_0 := ce0 BK388; have hcz66_1 := ce1 BK388; have hcz66_2 := ce2 BK388; have hcz66_3 := ce3 BK388; have hcz66_4 := ce4 BK388; have hfz66_0 := bfz BK388 0; have hfz66_1 := bfz BK388 1; have hfz66_2 := bfz BK388 2; have hfz66_3 := bfz BK388 3; have hfz66_4 := bfz BK388 4; have hnb67 := NB380_381.out; have hnc67 := NB381_380.out; have hnb68 := NB380_0.out; have hnc68 := NB0_380.out; have hcz69_0 := ce0 BK380; have hcz69_1 := ce1 BK380; have hfz69_0 := bfz BK380 0; have hfz69_1 := bfz BK380 1) | (go_at_call 51; (with_reducible refine (spec_l6Rd_pick.calls kj13 g s0_0 t409 3 t410 t411 w0 _ ?side1 ?side2 A57.out).mono ?_); (case side1 => exact zi HI0); (case side2 => exact zb HB); rintro e w70 ⟨rfl, hi, hb, hk⟩; replace BK380 := am (KeepBut.blk hk (zk BK380) NB380_0.out (by simp)); replace BK381 := am (KeepBut.blk hk (zk BK381) NB381_0.out (by simp)); replace BK388 := am (KeepBut.blk hk (g' := gb388) (o := .cells #[.int .i64 t404, .string t405, .string t406, .int .i64 t407, .string t408] 103 (0, 0)) (zp BK388) NB388_0.out (by simp)); replace HK := am (KeepBut.trans (zh HK) hk (.inl rfl)); replace HB := am (hb); replace HI0 := am (hi); (try clear hb); (try clear hb2); (try clear hk); (try clear hi)))
    replace BK380 := am (blk_drew BK380.out)
    replace BK381 := am (blk_drew BK381.out)
    replace BK388 := am (blk_drew BK388.out)
    replace HI0 := am (IsS93.drew HI0.out)
    replace HK := am (keep_drew HK.out)
    replace HB := am (below_drew1 HB.out)
    have p414 : 0 ≤ (t412 : Int) := of_decide_eq_true zl
    have q414 : t412 < (l1_1.length : Int) := of_decide_eq_true zl
    obtain ⟨ad414, A414_1, c414_1, e414, hx414_0, hx414_1, hl414_1, hi414_1⟩ := at_T38 (Kd.C_foot_now HR1_1.out HK.out) t412 p414 q414
    have hw414_1 := hx414_1
    have hw414_0 := hx414_0
    cases e414
    have hne414_1 := (show (⟨(ad414.add ((t412).toNat * 2)).block, (ad414.add ((t412).toNat * 2)).off + 1, none⟩ : Addr).block ≠ g from by first | (rw [add_block]; exact Kd.foot_ne HR1_1.out (by omega) (by decide)) | (show (Addr.add _ _).block ≠ _; rw [add_block]; exact Kd.foot_ne HR1_1.out (by omega) (by decide)) | exact Kd.foot_ne HR1_1.out (by omega) (by decide) | (dsimp only; exact Kd.foot_ne HR1_1.out (by omega) (by decide)))
    have hlt414_1 := (Kd.foot_lt HR1_1.out (by omega) (by decide))
    have hne414_0 := (show ((ad414.add ((t412).toNat * 2)) : Addr).block ≠ g from by first | (rw [add_block]; exact Kd.foot_ne HR1_1.out (by omega) (by decide)) | (show (Addr.add _ _).block ≠ _; rw [add_block]; exact Kd.foot_ne HR1_1.out (by omega) (by decide)) | exact Kd.foot_ne HR1_1.out (by omega) (by decide) | (dsimp only; exact Kd.foot_ne HR1_1.out (by omega) (by decide)))
    have hlt414_0 := (Kd.foot_lt HR1_1.out (by omega) (by decide))
    have HR414_1 := am hi414_1
    have HC414_1 := am hl414_1
    clear hi414_1 hl414_1
    replace p414 := eq_true p414
    replace q414 := eq_true q414
    refine start_ (n := 12) (S := fun w' => w'.cell? ⟨gb380, 0, none⟩ = some (.slice A1_0 l1_0.length c1_0) ∧ w'.cell? ⟨gb380, 1, none⟩ = some (.slice (some ad414) l1_1.length c1_1) ∧ w'.cell? (ad414.add ((t412).toNat * 2)) = some (.string ((rd_T38 l1_1 t412).f0)) ∧ w'.cell? ⟨(ad414.add ((t412).toNat * 2)).block, (ad414.add ((t412).toNat * 2)).off + 1, none⟩ = some (.slice A414_1 ((rd_T38 l1_1 t412).f1).length c414_1)) (ds := []) (bs 12 0) (by kernel_rfl) rfl rfl ⟨ce0 BK380, ce1 BK380, hx414_0, hx414_1⟩ (fun hHeld => ?_); refine with_tabW spec_l71Fits.tab11 spec_l71Fits.bits11 (fun HT_ HW_ => ?_)
    generalize w70.drew = w71 at BK380 BK381 BK388 HI0 HK HB HR414_1 hx414_0 hx414_1 hHeld ⊢
    refine pu 0 37 12 1 rfl rfl ?_
    refine pu 2 39 12 5 rfl rfl ?_
    refine pu 3 40 12 13 rfl rfl ?_
    refine ta4 1 38 12 15 rfl rfl hHeld ?_
    refine ta4 4 41 12 31 rfl rfl hHeld ?_
    refine pu 5 42 12 63 rfl rfl ?_
    refine oz 6 12 127 rfl rfl (fun K hK => ?_)
    refine gs Try.func51 #[.pointer (some ⟨g, 0, none⟩), .int .i64 (l1_1.length : Int)] rfl rfl ?_
    with_reducible refine (spec_l6Rd_pick.calls kj13 g s0_0 t411 (l1_1.length : Int) t412 t413 w0 _ ?side1 ?side2 A59.out).mono ?_
    (case side1 => exact zi HI0)
    (case side2 => exact zb HB)
    rintro e w72 ⟨rfl, hi, hb, hk⟩
    have HS2_ := keep_cell hk (hHeld.2.2.1) (by first | (rw [add_block]; exact hne414_0) | (show (Addr.add _ _).block ≠ _; rw [add_block]; exact hne414_0) | exact hne414_0)
    have HS3_ := keep_cell hk (hHeld.2.2.2) (by first | (rw [add_block]; exact hne414_1) | (show (Addr.add _ _).block ≠ _; rw [add_block]; exact hne414_1) | exact hne414_1)
    refine ⟨_, rfl, ?_⟩
    replace BK380 := am (KeepBut.blk hk (zk BK380) NB380_0.out (by simp))
    replace BK381 := am (KeepBut.blk hk (zk BK381) NB381_0.out (by simp))
    replace BK388 := am (KeepBut.blk hk (zk BK388) NB388_0.out (by simp))
    replace HK := am (KeepBut.trans (zh HK) hk (.inl rfl))
    replace HB := am (hb)
    replace HI0 := am (hi)
    (try clear hb)
    (try clear hb2)
    (try clear hk)
    (try clear hi)
    refine hK.out _ _ ⟨ce0 BK380, ce1 BK380, HS2_, HS3_⟩ (fun hHeld => ?_)
    clear hK K
    refine norm_ (a' := ?_) ?_ ?_
    rotate_left
    · show Act.put _ (some 43) _ = _
      simp only [Act.put, List.setIfInBounds_toArray, List.set_cons_zero, List.set_cons_succ, i64_w, i32_w]
      rfl
    refine pu 7 44 12 255 rfl rfl ?_
    refine pu 8 45 12 511 rfl rfl ?_
    refine ta4 9 46 12 1023 rfl rfl hHeld ?_
    refine pu 10 47 12 2047 rfl rfl ?_
    refine oz 11 12 4095 rfl rfl (fun K hK => ?_)
    have hs73 := ce1 BK388
    have hfs73 := bfz BK388 1
    have hns73_0 := NB380_388.out
    have hns73_1 := NB381_388.out
    have hms73_0 := NB388_380.out
    have hms73_1 := NB388_381.out
    refine skip_ (w1 := ?_) (by rfl) rfl ?_ ?_
    rotate_left
    · go_simp
      rfl
    refine hK.out _ _ ⟨((cell_far (p := ⟨gb388, _, none⟩) NB380_388.out _).trans (hHeld.1)), ((cell_far (p := ⟨gb388, _, none⟩) NB380_388.out _).trans (hHeld.2.1)), ((cell_far (p := ⟨gb388, _, none⟩) (by first | exact Nat.ne_of_lt (Nat.lt_of_lt_of_le hlt414_0 GW388.out) | (rw [add_block]; exact Nat.ne_of_lt (Nat.lt_of_lt_of_le hlt414_0 GW388.out)) | (show (Addr.add _ _).block ≠ _; rw [add_block]; exact Nat.ne_of_lt (Nat.lt_of_lt_of_le hlt414_0 GW388.out)) | (dsimp only; exact Nat.ne_of_lt (Nat.lt_of_lt_of_le hlt414_0 GW388.out))) _).trans (hHeld.2.2.1)), ((cell_far (p := ⟨gb388, _, none⟩) (by first | exact Nat.ne_of_lt (Nat.lt_of_lt_of_le hlt414_1 GW388.out) | (rw [add_block]; exact Nat.ne_of_lt (Nat.lt_of_lt_of_le hlt414_1 GW388.out)) | (show (Addr.add _ _).block ≠ _; rw [add_block]; exact Nat.ne_of_lt (Nat.lt_of_lt_of_le hlt414_1 GW388.out)) | (dsimp only; exact Nat.ne_of_lt (Nat.lt_of_lt_of_le hlt414_1 GW388.out))) _).trans (hHeld.2.2.2))⟩ (fun hHeld => ?_)
    clear hK K
    refine done_ (done_of HT_.out (by kernel_rfl)) ?_
    try go_wp2
    go_roundg kj13
    case measure => have := HK1.out; have := HJ13.out; omega
    case rel => exact ⟨(wrap64 (x6_1 + 1)), (t413), (x382000_13), (x382001_13), (x382002_13), (x382003_13), (x382004_13), (t404), ((rd_T38 l1_1 t412).f0), (t406), (t407), (t408), ze, H', ⟨by have := HK1.out; have := HJ13.out; omega⟩, ⟨zk BK380⟩, ⟨zk BK381⟩, ⟨zp BK388⟩, ⟨zi HI0⟩, ⟨zh HK⟩, ⟨zb HB⟩⟩
end Go.Proofs.Ytooamacekmjpaaa.PFnPoolOnce
