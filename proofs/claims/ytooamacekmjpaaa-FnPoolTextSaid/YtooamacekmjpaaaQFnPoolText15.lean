/- The walk: each function that the law comes to as a plain Lean function, and a proof that the Go code answers so. Written by this session's program over the kit's printer. -/
import Derived.Test.YtooamacekmjpaaaZ
import Derived.Test.YtooamacekmjpaaaQFnPoolText0
import Derived.Test.YtooamacekmjpaaaQFnPoolText8
import Derived.Test.YtooamacekmjpaaaQFnPoolText9
import Derived.Test.YtooamacekmjpaaaQFnPoolText13
import Derived.Test.YtooamacekmjpaaaQFnPoolText14
namespace Go.Proofs.Ytooamacekmjpaaa.PFnPoolText
open Go.RowKit Go.Proofs.YtooamacekmjpaaaW.PrintWords Go.Proofs.YtooamacekmjpaaaW.PrintLast Go.Proofs.YtooamacekmjpaaaW.PrintMore
attribute [local go_sem] max2_int min2_int max_two min_two max_three min_three max_four min_four   -- for this text's walks alone
set_option linter.unusedVariables false
set_option linter.unusedSimpArgs false
/-! ### spec_l71Fits: function 80 -/
mutual
def spec_l71Fits.l0 : Nat → Int → List Int → Int → List (S55) → List (S38) → Int → ByteArray → ByteArray → Int → ByteArray → Option (Int × ByteArray × ByteArray × Int × ByteArray × Int)
 | 0, _, _, _, _, _, _, _, _, _, _ => none
 | k + 1, x6, x1000, x1001, x404000, x404001, x412000, x412001, x412002, x412003, x412004 => if x6 < 8 then ((spec_OpOk.f k x412000 x412001 x412002 x412003 x412004).bind fun t412 => (if t412 = true then ((spec_l11Copy.f k x404000 x404001).bind fun bt413 => ((spec_l12Do.f k bt413.1 bt413.2 x412000 x412001 x412002 x412003 x412004).bind fun bt419 => (if bt419.2.2 = true then (some (x412000, x412001, x412002, x412003, x412004, x1001)) else (spec_l71Fits.j1 k x6 x1000 x1001 x404000 x404001)))) else (spec_l71Fits.j1 k x6 x1000 x1001 x404000 x404001))) else (some (x412000, x412001, x412002, x412003, x412004, x1001))
def spec_l71Fits.j1 : Nat → Int → List Int → Int → List (S55) → List (S38) → Option (Int × ByteArray × ByteArray × Int × ByteArray × Int)
 | 0, _, _, _, _, _ => none
 | k + 1, x6, x1000, x1001, x404000, x404001 => (spec_l71Op.f k x1000 x1001).bind fun bt427 => (if (x404001.length : Int) > 0 then ((spec_l6Rd_pick.f k x1000 bt427.2.2.2.2.2 3).bind fun bt433 => (if bt433.1 > 0 then ((spec_l6Rd_pick.f k x1000 bt433.2 (x404001.length : Int)).bind fun bt435 => (if 0 ≤ bt435.1 then (if bt435.1 < (x404001.length : Int) then (spec_l71Fits.l0 k (wrap64 (x6 + 1)) x1000 bt435.2 x404000 x404001 bt427.1 ((rd_T38 x404001 bt435.1).f0) bt427.2.2.1 bt427.2.2.2.1 bt427.2.2.2.2.1) else (none)) else (none))) else (spec_l71Fits.l0 k (wrap64 (x6 + 1)) x1000 bt433.2 x404000 x404001 bt427.1 bt427.2.1 bt427.2.2.1 bt427.2.2.2.1 bt427.2.2.2.2.1))) else (spec_l71Fits.l0 k (wrap64 (x6 + 1)) x1000 bt427.2.2.2.2.2 x404000 x404001 bt427.1 bt427.2.1 bt427.2.2.1 bt427.2.2.2.1 bt427.2.2.2.2.1))
end
def spec_l71Fits.f (k : Nat) (s0_0 : List Int) (s0_1 : Int) (l1_0 : List (S55)) (l1_1 : List (S38)) : Option (Int × ByteArray × ByteArray × Int × ByteArray × Int) := (spec_l71Op.f k s0_0 s0_1).bind fun bt405 => (spec_l71Fits.l0 k 0 s0_0 bt405.2.2.2.2.2 l1_0 l1_1 bt405.1 bt405.2.1 bt405.2.2.1 bt405.2.2.2.1 bt405.2.2.2.2.1)
theorem spec_l71Fits.mono_l : ∀ k, (∀ y0 y1 y2 y3 y4 y5 y6 y7 y8 y9, LeO (spec_l71Fits.l0 k y0 y1 y2 y3 y4 y5 y6 y7 y8 y9) (spec_l71Fits.l0 (k + 1) y0 y1 y2 y3 y4 y5 y6 y7 y8 y9)) ∧ (∀ y0 y1 y2 y3 y4, LeO (spec_l71Fits.j1 k y0 y1 y2 y3 y4) (spec_l71Fits.j1 (k + 1) y0 y1 y2 y3 y4))
 | 0 => ⟨fun _ _ _ _ _ _ _ _ _ _ r h => by simp [spec_l71Fits.l0] at h, fun _ _ _ _ _ r h => by simp [spec_l71Fits.j1] at h⟩
 | k + 1 => by
  obtain ⟨ih0, ih1⟩ := spec_l71Fits.mono_l k
  refine ⟨?_, ?_⟩
  · intro y0 y1 y2 y3 y4 y5 y6 y7 y8 y9
    unfold spec_l71Fits.l0
    repeat' first
    | (with_reducible exact ih0 _ _ _ _ _ _ _ _ _ _)
    | (with_reducible exact ih1 _ _ _ _ _)
    | (with_reducible exact spec_OpOk.mono _ _ _ _ _ _)
    | (with_reducible exact spec_l11Copy.mono _ _ _)
    | (with_reducible exact spec_l12Do.mono _ _ _ _ _ _ _ _)
    | (with_reducible exact spec_l6Rd_pick.mono _ _ _ _)
    | (with_reducible exact spec_l71Op.mono _ _ _)
    | (with_reducible exact LeO.refl _)
    | (with_reducible exact LeO.none _)
    | (with_reducible refine LeO.ite ?_ ?_)
    | (with_reducible refine LeO.bind ?_ (fun _ => ?_))
    | exact ih0 _ _ _ _ _ _ _ _ _ _
    | exact ih1 _ _ _ _ _
    | exact spec_OpOk.mono _ _ _ _ _ _
    | exact spec_l11Copy.mono _ _ _
    | exact spec_l12Do.mono _ _ _ _ _ _ _ _
    | exact spec_l6Rd_pick.mono _ _ _ _
    | exact spec_l71Op.mono _ _ _
    | exact LeO.none _
    | refine LeO.ite ?_ ?_
    | refine LeO.bind ?_ (fun _ => ?_)
  intro y0 y1 y2 y3 y4
  unfold spec_l71Fits.j1
  repeat' first
  | (with_reducible exact ih0 _ _ _ _ _ _ _ _ _ _)
  | (with_reducible exact ih1 _ _ _ _ _)
  | (with_reducible exact spec_OpOk.mono _ _ _ _ _ _)
  | (with_reducible exact spec_l11Copy.mono _ _ _)
  | (with_reducible exact spec_l12Do.mono _ _ _ _ _ _ _ _)
  | (with_reducible exact spec_l6Rd_pick.mono _ _ _ _)
  | (with_reducible exact spec_l71Op.mono _ _ _)
  | (with_reducible exact LeO.refl _)
  | (with_reducible exact LeO.none _)
  | (with_reducible refine LeO.ite ?_ ?_)
  | (with_reducible refine LeO.bind ?_ (fun _ => ?_))
  | exact ih0 _ _ _ _ _ _ _ _ _ _
  | exact ih1 _ _ _ _ _
  | exact spec_OpOk.mono _ _ _ _ _ _
  | exact spec_l11Copy.mono _ _ _
  | exact spec_l12Do.mono _ _ _ _ _ _ _ _
  | exact spec_l6Rd_pick.mono _ _ _ _
  | exact spec_l71Op.mono _ _ _
  | exact LeO.none _
  | refine LeO.ite ?_ ?_
  | refine LeO.bind ?_ (fun _ => ?_)
theorem spec_l71Fits.mono : ∀ a0 a1 a2 a3 k, LeO (spec_l71Fits.f k a0 a1 a2 a3) (spec_l71Fits.f (k + 1) a0 a1 a2 a3) := by
 intro a0 a1 a2 a3 k
 obtain ⟨ih0, ih1⟩ := spec_l71Fits.mono_l k
 unfold spec_l71Fits.f
 repeat' first
  | (with_reducible exact ih0 _ _ _ _ _ _ _ _ _ _)
  | (with_reducible exact ih1 _ _ _ _ _)
  | (with_reducible exact spec_OpOk.mono _ _ _ _ _ _)
  | (with_reducible exact spec_l11Copy.mono _ _ _)
  | (with_reducible exact spec_l12Do.mono _ _ _ _ _ _ _ _)
  | (with_reducible exact spec_l6Rd_pick.mono _ _ _ _)
  | (with_reducible exact spec_l71Op.mono _ _ _)
  | (with_reducible exact LeO.refl _)
  | (with_reducible exact LeO.none _)
  | (with_reducible refine LeO.ite ?_ ?_)
  | (with_reducible refine LeO.bind ?_ (fun _ => ?_))
  | exact ih0 _ _ _ _ _ _ _ _ _ _
  | exact ih1 _ _ _ _ _
  | exact spec_OpOk.mono _ _ _ _ _ _
  | exact spec_l11Copy.mono _ _ _
  | exact spec_l12Do.mono _ _ _ _ _ _ _ _
  | exact spec_l6Rd_pick.mono _ _ _ _
  | exact spec_l71Op.mono _ _ _
  | exact LeO.none _
  | refine LeO.ite ?_ ?_
  | refine LeO.bind ?_ (fun _ => ?_)
def spec_l71Fits.T6 : Bool × List (List Nat × List Nat) := (true, [([], []), ([0], [0]), ([], []), ([1, 2, 1], [1, 2]), ([3], [3]), ([4], [4]), ([4], [4]), ([], []), ([7, 5, 3, 0, 1, 2, 3, 4, 5, 7], [5, 7]), ([6, 8, 0, 1, 2, 3, 4, 5, 6, 7, 8], [6])])
def spec_l71Fits.B6 : List Nat := [0, 1, 0, 7, 15, 31, 31, 0, 191, 511]
theorem spec_l71Fits.tab6 : rtab .any (opsOf Try.f80 6) = spec_l71Fits.T6 := by kernel_rfl
theorem spec_l71Fits.bits6 : waitsOk spec_l71Fits.T6.2 spec_l71Fits.B6 = true := by kernel_rfl
def spec_l71Fits.T11 : Bool × List (List Nat × List Nat) := (true, [([], []), ([0], [0]), ([], []), ([], []), ([3], [3]), ([4], [4]), ([2, 5], [2, 5]), ([1, 6], [1, 6]), ([7], [7]), ([8], [8]), ([0, 1, 2, 3, 4, 5, 6, 7, 8, 9], []), ([10, 9, 6, 0, 1, 2, 3, 4, 5, 6, 7, 8, 9], [9, 10])])
def spec_l71Fits.B11 : List Nat := [0, 1, 0, 0, 8, 24, 60, 127, 255, 511, 1023, 2047]
theorem spec_l71Fits.tab11 : rtab .any (opsOf Try.f80 11) = spec_l71Fits.T11 := by kernel_rfl
theorem spec_l71Fits.bits11 : waitsOk spec_l71Fits.T11.2 spec_l71Fits.B11 = true := by kernel_rfl
set_option maxHeartbeats 8000000 in
set_option maxRecDepth 100000 in
theorem spec_l71Fits.calls (k : Nat) (g : Nat) (s0_0 : List Int) (s0_1 : Int) (A1_0 : Option Addr) (c1_0 : Nat) (l1_0 : List (S55)) (A1_1 : Option Addr) (c1_1 : Nat) (l1_1 : List (S38)) (r1 : Int) (r2 : ByteArray) (r3 : ByteArray) (r4 : Int) (r5 : ByteArray) (r6 : Int) (w0 w : World) (hI : IsS93 w0 w g s0_0 s0_1) (hB : Below w0.heap.size w0 w) (hr1_0 : ∀ W_, KeepBut w W_ g none → Kd.C k55 W_ A1_0 l1_0.length l1_0) (hc1_0 : l1_0.length ≤ c1_0) (hr1_1 : ∀ W_, KeepBut w W_ g none → Kd.C k38 W_ A1_1 l1_1.length l1_1) (hc1_1 : l1_1.length ≤ c1_1) (h : spec_l71Fits.f k s0_0 s0_1 l1_0 l1_1 = some (r1, r2, r3, r4, r5, r6)) :
 Calls Try.prog 80 #[.pointer (some ⟨g, 0, none⟩), .agg #[.slice A1_0 l1_0.length c1_0, .slice A1_1 l1_1.length c1_1]] w fun e w' => e = .returned (.agg #[.int .i64 r1, .string r2, .string r3, .int .i64 r4, .string r5]) ∧ IsS93 w0 w' g s0_0 r6 ∧ Below w0.heap.size w0 w' ∧ KeepBut w w' g none := by
 have hu31 := Try.underlying31
 have hu103 := Try.underlying103
 have HR1_0 := am hr1_0
 have HC1_0 := am hc1_0
 clear hr1_0 hc1_0
 have HR1_1 := am hr1_1
 have HC1_1 := am hc1_1
 clear hr1_1 hc1_1
 have HI0 := am hI
 have HK := am (KeepBut.refl w g none)
 have HL := am hB.size
 clear hI
 have HW0 := am hB.size
 have HB := am hB
 clear hB
 have H : ((spec_l71Op.f k s0_0 s0_1).bind fun bt405 => (spec_l71Fits.l0 k 0 s0_0 bt405.2.2.2.2.2 l1_0 l1_1 bt405.1 bt405.2.1 bt405.2.2.1 bt405.2.2.2.1 bt405.2.2.2.2.1)) = some (r1, r2, r3, r4, r5, r6) := h
 clear h
 replace H := obs H
 obtain ⟨⟨t405, t406, t407, t408, t409, t410⟩, A30, H⟩ := H
 replace H : (spec_l71Fits.l0 k 0 s0_0 t410 l1_0 l1_1 t405 t406 t407 t408 t409) = some (r1, r2, r3, r4, r5, r6) := H
 have A3 := am A30
 clear A30
 have H' := am H
 clear H
 go_enter Try.func80, Try.ntmps80
 go_wp2_with (first | ((with_reducible refine gate_dst (N := 3) rfl ?_); refine bx 31 #[.slice A1_0 l1_0.length c1_0, .slice A1_1 l1_1.length c1_1] ?_; intro gb403 hg w4 hbox hb; replace HB := am (below_step (zb HB) hb); have BK403 := am (hbox); have GW403 := am (zm hg (zh HK)); have GE403 := am ((Nat.le_trans HW0.out (zm hg (zh HK)))); replace HK := am (KeepBut.trans (zh HK) (KeepBut.of_below hb g none) (.inl rfl)); have NB0_403 := am (ix hg (zi HI0)); have NB403_0 := am (iy hg (zi HI0)); replace HI0 := am (IsS93.below (zi HI0) hb); clear hb hbox hg) | ((with_reducible refine gate_dst (N := 4) rfl ?_); refine bx 103 #[.int .i64 0, .string (⟨#[]⟩ : ByteArray), .string (⟨#[]⟩ : ByteArray), .int .i64 0, .string (⟨#[]⟩ : ByteArray)] ?_; intro gb404 hg w5 hbox hb; replace HB := am (below_step (zb HB) hb); have BK404 := am (hbox); have GW404 := am (zm hg (zh HK)); have GE404 := am ((Nat.le_trans HW0.out (zm hg (zh HK)))); replace HK := am (KeepBut.trans (zh HK) (KeepBut.of_below hb g none) (.inl rfl)); have NB403_404 := am (zx hg (zk BK403)); have NB404_403 := am (zy hg (zk BK403)); replace BK403 := am (blk_below (zk BK403) hb); have NB0_404 := am (ix hg (zi HI0)); have NB404_0 := am (iy hg (zi HI0)); replace HI0 := am (IsS93.below (zi HI0) hb); clear hb hbox hg) | ((with_reducible refine gate_callee (f := 87) rfl ?_); refine gl Try.func87 10 #[.pointer (some ⟨g, 0, none⟩)] rfl rfl rfl ?_; (with_reducible refine (spec_l71Op.calls k g s0_0 s0_1 t405 t406 t407 t408 t409 t410 w0 _ ?side1 ?side2 A3.out).mono ?_); (case side1 => exact zi HI0); (case side2 => exact zb HB); rintro e w6 ⟨rfl, hi, hb, hk⟩; refine ⟨_, rfl, ?_⟩; replace BK403 := am (KeepBut.blk hk (zk BK403) NB403_0.out (by simp)); replace BK404 := am (KeepBut.blk hk (zk BK404) NB404_0.out (by simp)); replace HK := am (KeepBut.trans (zh HK) hk (.inl rfl)); replace HB := am (hb); replace HI0 := am (hi); (try clear hb); (try clear hb2); (try clear hk); (try clear hi)) | ((with_reducible refine gate_dst (N := 5) rfl ?_); refine bx 103 #[.int .i64 0, .string (⟨#[]⟩ : ByteArray), .string (⟨#[]⟩ : ByteArray), .int .i64 0, .string (⟨#[]⟩ : ByteArray)] ?_; intro gb411 hg w7 hbox hb; replace HB := am (below_step (zb HB) hb); have BK411 := am (hbox); have GW411 := am (zm hg (zh HK)); have GE411 := am ((Nat.le_trans HW0.out (zm hg (zh HK)))); replace HK := am (KeepBut.trans (zh HK) (KeepBut.of_below hb g none) (.inl rfl)); have NB403_411 := am (zx hg (zk BK403)); have NB411_403 := am (zy hg (zk BK403)); replace BK403 := am (blk_below (zk BK403) hb); have NB404_411 := am (zx hg (zk BK404)); have NB411_404 := am (zy hg (zk BK404)); replace BK404 := am (blk_below (zk BK404) hb); have NB0_411 := am (ix hg (zi HI0)); have NB411_0 := am (iy hg (zi HI0)); replace HI0 := am (IsS93.below (zi HI0) hb); clear hb hbox hg; have hnb8 := NB411_403.out; have hnc8 := NB403_411.out; have hnb9 := NB411_404.out; have hnc9 := NB404_411.out; have hnb10 := NB411_0.out; have hnc10 := NB0_411.out; have hcz11_0 := ce0 BK411; have hcz11_1 := ce1 BK411; have hcz11_2 := ce2 BK411; have hcz11_3 := ce3 BK411; have hcz11_4 := ce4 BK411; have hfz11_0 := bfz BK411 0; have hfz11_1 := bfz BK411 1; have hfz11_2 := bfz BK411 2; have hfz11_3 := bfz BK411 3; have hfz11_4 := bfz BK411 4))
 go_loopg [6] k (fun kq v6 w' => ∃ (x6_1 : Int) (x1001_1 : Int) (x405000_1 : Int) (x405001_1 : ByteArray) (x405002_1 : ByteArray) (x405003_1 : Int) (x405004_1 : ByteArray) (x412000_1 : Int) (x412001_1 : ByteArray) (x412002_1 : ByteArray) (x412003_1 : Int) (x412004_1 : ByteArray), v6 = .int .i64 x6_1 ∧ Aside0 (spec_l71Fits.l0 kq x6_1 s0_0 x1001_1 l1_0 l1_1 x412000_1 x412001_1 x412002_1 x412003_1 x412004_1 = some (r1, r2, r3, r4, r5, r6)) ∧ Aside0 (kq ≤ k) ∧ Aside0 (w'.heap[gb403]? = some (.cells #[(.slice A1_0 l1_0.length c1_0), (.slice A1_1 l1_1.length c1_1)] 31 (0, 0))) ∧ Aside0 (w'.heap[gb404]? = some (.cells #[.int .i64 x405000_1, .string x405001_1, .string x405002_1, .int .i64 x405003_1, .string x405004_1] 103 (0, 0))) ∧ Aside0 (w'.heap[gb411]? = some (.cells #[.int .i64 x412000_1, .string x412001_1, .string x412002_1, .int .i64 x412003_1, .string x412004_1] 103 (0, 0))) ∧ Aside0 (IsS93 w0 w' g s0_0 x1001_1) ∧ Aside0 (KeepBut w w' g none) ∧ Aside0 (Below w0.heap.size w0 w'))
 case atStart => exact ⟨(0), (t410), (0), ((⟨#[]⟩ : ByteArray)), ((⟨#[]⟩ : ByteArray)), (0), ((⟨#[]⟩ : ByteArray)), (t405), (t406), (t407), (t408), (t409), ze, H', ⟨Nat.le_refl _⟩, ⟨zk BK403⟩, ⟨zk BK404⟩, ⟨zp BK411⟩, ⟨zi HI0⟩, ⟨zh HK⟩, ⟨zb HB⟩⟩
 case round =>
  clear H'
  try clear c1
  try clear p2
  try clear c8
  try clear c9
  try clear c10
  try clear hcz11_0
  try clear hcz11_1
  try clear hcz11_2
  try clear hcz11_3
  try clear hcz11_4
  try clear hfz11_0
  try clear hfz11_1
  try clear hfz11_2
  try clear hfz11_3
  try clear hfz11_4
  obtain ⟨x6_1, x1001_1, x405000_1, x405001_1, x405002_1, x405003_1, x405004_1, x412000_1, x412001_1, x412002_1, x412003_1, x412004_1, rfl, HA, HK1, BK403, BK404, BK411, HI0, HK, HB⟩ := hrel
  cases gk with
  | zero => exact absurd HA.out (by simp [spec_l71Fits.l0])
  | succ k1 =>
   have H := HA.out
   clear HA
   simp only [spec_l71Fits.l0] at H
   by_cases c12 : x6_1 < 8
   rotate_left
   · rw [if_neg c12] at H
     have c12b0 : decide (x6_1 < 8) = false := decide_eq_false c12
     clear c12
     simp only [Option.some.injEq, Prod.mk.injEq] at H
     obtain ⟨rfl, rfl, rfl, rfl, rfl, rfl⟩ := H
     have hnb91 := NB411_403.out
     have hnc91 := NB403_411.out
     have hnb92 := NB411_404.out
     have hnc92 := NB404_411.out
     have hnb93 := NB411_0.out
     have hnc93 := NB0_411.out
     have hcz94_0 := ce0 BK411
     have hcz94_1 := ce1 BK411
     have hcz94_2 := ce2 BK411
     have hcz94_3 := ce3 BK411
     have hcz94_4 := ce4 BK411
     have hfz94_0 := bfz BK411 0
     have hfz94_1 := bfz BK411 1
     have hfz94_2 := bfz BK411 2
     have hfz94_3 := bfz BK411 3
     have hfz94_4 := bfz BK411 4
     have hnb95 := NB404_403.out
     have hnc95 := NB403_404.out
     have hnb96 := NB404_0.out
     have hnc96 := NB0_404.out
     have hcz97_0 := ce0 BK404
     have hcz97_1 := ce1 BK404
     have hcz97_2 := ce2 BK404
     have hcz97_3 := ce3 BK404
     have hcz97_4 := ce4 BK404
     have hfz97_0 := bfz BK404 0
     have hfz97_1 := bfz BK404 1
     have hfz97_2 := bfz BK404 2
     have hfz97_3 := bfz BK404 3
     have hfz97_4 := bfz BK404 4
     go_wp2
     refine bodyPost_ret (results_cell_row rfl _ _ gb404 103 #[.int .i64 x412000_1, .string x412001_1, .string x412002_1, .int .i64 x412003_1, .string x412004_1] (0, 0) _ rfl (zp BK404) Try.underlying103 rfl (by kernel_rfl)) rfl ?_
     exact ⟨zv, (zi HI0), (zb HB), (zh HK)⟩
   rw [if_pos c12] at H
   have c12b0 : decide (x6_1 < 8) = true := decide_eq_true c12
   clear c12
   replace H := obs H
   obtain ⟨t412, A130, H⟩ := H
   replace H : (if t412 = true then ((spec_l11Copy.f k1 l1_0 l1_1).bind fun bt413 => ((spec_l12Do.f k1 bt413.1 bt413.2 x412000_1 x412001_1 x412002_1 x412003_1 x412004_1).bind fun bt419 => (if bt419.2.2 = true then (some (x412000_1, x412001_1, x412002_1, x412003_1, x412004_1, x1001_1)) else (spec_l71Fits.j1 k1 x6_1 s0_0 x1001_1 l1_0 l1_1)))) else (spec_l71Fits.j1 k1 x6_1 s0_0 x1001_1 l1_0 l1_1)) = some (r1, r2, r3, r4, r5, r6) := H
   have A13 := am A130
   clear A130
   have HC14 := am H
   clear H
   have hnb15 := NB411_403.out
   have hnc15 := NB403_411.out
   have hnb16 := NB411_404.out
   have hnc16 := NB404_411.out
   have hnb17 := NB411_0.out
   have hnc17 := NB0_411.out
   have hcz18_0 := ce0 BK411
   have hcz18_1 := ce1 BK411
   have hcz18_2 := ce2 BK411
   have hcz18_3 := ce3 BK411
   have hcz18_4 := ce4 BK411
   have hfz18_0 := bfz BK411 0
   have hfz18_1 := bfz BK411 1
   have hfz18_2 := bfz BK411 2
   have hfz18_3 := bfz BK411 3
   have hfz18_4 := bfz BK411 4
   go_upto_if 16 with (first | ((with_reducible refine gate_callee (f := 83) rfl ?_); refine gl Try.func83 16 #[.agg #[.int .i64 x412000_1, .string x412001_1, .string x412002_1, .int .i64 x412003_1, .string x412004_1]] rfl rfl rfl ?_; (with_reducible refine (spec_OpOk.calls k1 x412000_1 x412001_1 x412002_1 x412003_1 x412004_1 t412 _ A13.out).mono ?_); rintro e w19 ⟨rfl, hb⟩; refine ⟨_, rfl, ?_⟩; replace BK403 := am (blk_below (zk BK403) hb); replace BK404 := am (blk_below (zk BK404) hb); replace BK411 := am (blk_below (zk BK411) hb); replace HI0 := am (IsS93.below (zi HI0) hb); replace HK := am (KeepBut.trans (zh HK) (KeepBut.of_below hb g none) (.inl rfl)); replace HB := am (below_step (zb HB) hb); (try clear hb); (try clear hb2); (try clear hk); (try clear hi)))
   (try simp only [Act.put, List.setIfInBounds_toArray, List.set_cons_zero, List.set_cons_succ])
   go_cut [] (fun wc => ∃ (kq : Nat) (x405000_13 : Int) (x405001_13 : ByteArray) (x405002_13 : ByteArray) (x405003_13 : Int) (x405004_13 : ByteArray), Aside0 (spec_l71Fits.j1 kq x6_1 s0_0 x1001_1 l1_0 l1_1 = some (r1, r2, r3, r4, r5, r6)) ∧ Aside0 (kq ≤ k1) ∧ Aside0 (wc.heap[gb403]? = some (.cells #[(.slice A1_0 l1_0.length c1_0), (.slice A1_1 l1_1.length c1_1)] 31 (0, 0))) ∧ Aside0 (wc.heap[gb404]? = some (.cells #[.int .i64 x405000_13, .string x405001_13, .string x405002_13, .int .i64 x405003_13, .string x405004_13] 103 (0, 0))) ∧ Aside0 (wc.heap[gb411]? = some (.cells #[.int .i64 x412000_1, .string x412001_1, .string x412002_1, .int .i64 x412003_1, .string x412004_1] 103 (0, 0))) ∧ Aside0 (IsS93 w0 wc g s0_0 x1001_1) ∧ Aside0 (KeepBut w wc g none) ∧ Aside0 (Below w0.heap.size w0 wc))
   case first =>
    have H := HC14.out
    clear HC14
    by_cases c20 : t412 = true
    rotate_left
    · replace c20 := Bool.eq_false_iff.mpr c20
      subst c20
      have H1 : (spec_l71Fits.j1 k1 x6_1 s0_0 x1001_1 l1_0 l1_1) = some (r1, r2, r3, r4, r5, r6) := by rw [if_neg (show ¬ (false = true) by decide)] at H; exact H
      clear H
      have H := H1
      clear H1
      have H' := am H
      clear H
      go_wp2
      go_meet
      case rel => exact ⟨_, (x405000_1), (x405001_1), (x405002_1), (x405003_1), (x405004_1), H', ⟨by have := HK1.out; first | omega | exact Nat.le_refl _⟩, ⟨zk BK403⟩, ⟨zk BK404⟩, ⟨zk BK411⟩, ⟨zi HI0⟩, ⟨zh HK⟩, ⟨zb HB⟩⟩
    subst c20
    have H1 : ((spec_l11Copy.f k1 l1_0 l1_1).bind fun bt413 => ((spec_l12Do.f k1 bt413.1 bt413.2 x412000_1 x412001_1 x412002_1 x412003_1 x412004_1).bind fun bt419 => (if bt419.2.2 = true then (some (x412000_1, x412001_1, x412002_1, x412003_1, x412004_1, x1001_1)) else (spec_l71Fits.j1 k1 x6_1 s0_0 x1001_1 l1_0 l1_1)))) = some (r1, r2, r3, r4, r5, r6) := by rw [if_pos rfl] at H; exact H
    clear H
    have H := H1
    clear H1
    replace H := obs H
    obtain ⟨⟨t413, t416⟩, A210, H⟩ := H
    replace H : ((spec_l12Do.f k1 t413 t416 x412000_1 x412001_1 x412002_1 x412003_1 x412004_1).bind fun bt419 => (if bt419.2.2 = true then (some (x412000_1, x412001_1, x412002_1, x412003_1, x412004_1, x1001_1)) else (spec_l71Fits.j1 k1 x6_1 s0_0 x1001_1 l1_0 l1_1))) = some (r1, r2, r3, r4, r5, r6) := H
    have A21 := am A210
    clear A210
    replace H := obs H
    obtain ⟨⟨t419, t422, t425⟩, A220, H⟩ := H
    replace H : (if t425 = true then (some (x412000_1, x412001_1, x412002_1, x412003_1, x412004_1, x1001_1)) else (spec_l71Fits.j1 k1 x6_1 s0_0 x1001_1 l1_0 l1_1)) = some (r1, r2, r3, r4, r5, r6) := H
    have A22 := am A220
    clear A220
    by_cases c23 : t425 = true
    rotate_left
    · replace c23 := Bool.eq_false_iff.mpr c23
      subst c23
      have H1 : (spec_l71Fits.j1 k1 x6_1 s0_0 x1001_1 l1_0 l1_1) = some (r1, r2, r3, r4, r5, r6) := by rw [if_neg (show ¬ (false = true) by decide)] at H; exact H
      clear H
      have H := H1
      clear H1
      have H' := am H
      clear H
      try go_wp2
      replace BK403 := am (blk_drew BK403.out)
      replace BK404 := am (blk_drew BK404.out)
      replace BK411 := am (blk_drew BK411.out)
      replace HI0 := am (IsS93.drew HI0.out)
      replace HK := am (keep_drew HK.out)
      replace HB := am (below_drew1 HB.out)
      refine start_ (n := 10) (S := fun w' => w'.cell? ⟨gb403, 0, none⟩ = some (.slice A1_0 l1_0.length c1_0) ∧ w'.cell? ⟨gb403, 1, none⟩ = some (.slice A1_1 l1_1.length c1_1) ∧ w'.cell? ⟨gb411, 0, none⟩ = some (.int .i64 x412000_1) ∧ w'.cell? ⟨gb411, 1, none⟩ = some (.string x412001_1) ∧ w'.cell? ⟨gb411, 2, none⟩ = some (.string x412002_1) ∧ w'.cell? ⟨gb411, 3, none⟩ = some (.int .i64 x412003_1) ∧ w'.cell? ⟨gb411, 4, none⟩ = some (.string x412004_1)) (ds := []) (bs 10 0) (by kernel_rfl) rfl rfl ⟨ce0 BK403, ce1 BK403, ce0 BK411, ce1 BK411, ce2 BK411, ce3 BK411, ce4 BK411⟩ (fun hHeld => ?_); refine with_tabW spec_l71Fits.tab6 spec_l71Fits.bits6 (fun HT_ HW_ => ?_)
      generalize w19.drew = w44 at BK403 BK404 BK411 HI0 HK HB hHeld ⊢
      refine ta7 0 18 10 1 rfl rfl hHeld ?_
      refine ta7 2 20 10 5 rfl rfl hHeld ?_
      refine join_ (σ := Value × Value × Value × Value × Nat) 2 (bs 10 255) (fun s_ => [(19, .agg #[s_.1, s_.2.1]), (21, .tuple #[.agg #[s_.2.2.1, s_.2.2.2.1], .bool false]), (7, .pointer (some ⟨s_.2.2.2.2, 0, none⟩)), (17, .tuple #[.agg #[s_.2.2.1, s_.2.2.2.1], .bool false]), (22, .agg #[s_.2.2.1, s_.2.2.2.1]), (23, .bool false)]) (fun s_ w' => (w'.cell? ⟨gb403, 0, none⟩ = some (.slice A1_0 l1_0.length c1_0) ∧ w'.cell? ⟨gb403, 1, none⟩ = some (.slice A1_1 l1_1.length c1_1) ∧ w'.cell? ⟨gb411, 0, none⟩ = some (.int .i64 x412000_1) ∧ w'.cell? ⟨gb411, 1, none⟩ = some (.string x412001_1) ∧ w'.cell? ⟨gb411, 2, none⟩ = some (.string x412002_1) ∧ w'.cell? ⟨gb411, 3, none⟩ = some (.int .i64 x412003_1) ∧ w'.cell? ⟨gb411, 4, none⟩ = some (.string x412004_1)) ∧ (Kd.R k55 55 w' w.heap.size (fun _ => True) s_.2.2.1 t419) ∧ (Kd.S k38 38 w' w.heap.size (fun _ => True) s_.2.2.2.1 t422) ∧ (w'.heap[gb403]? = some (.cells #[.slice A1_0 l1_0.length c1_0, .slice A1_1 l1_1.length c1_1] 31 (0, 0))) ∧ (w'.heap[gb404]? = some (.cells #[.int .i64 x405000_1, .string x405001_1, .string x405002_1, .int .i64 x405003_1, .string x405004_1] 103 (0, 0))) ∧ (w'.heap[gb411]? = some (.cells #[.int .i64 x412000_1, .string x412001_1, .string x412002_1, .int .i64 x412003_1, .string x412004_1] 103 (0, 0))) ∧ (w'.heap[s_.2.2.2.2]? = some (.cells #[.slice none 0 0, .slice none 0 0] 31 (0, 0))) ∧ (w.heap.size ≤ s_.2.2.2.2) ∧ (w0.heap.size ≤ s_.2.2.2.2) ∧ (g ≠ s_.2.2.2.2) ∧ (s_.2.2.2.2 ≠ g) ∧ (gb403 ≠ s_.2.2.2.2) ∧ (s_.2.2.2.2 ≠ gb403) ∧ (gb404 ≠ s_.2.2.2.2) ∧ (s_.2.2.2.2 ≠ gb404) ∧ (gb411 ≠ s_.2.2.2.2) ∧ (s_.2.2.2.2 ≠ gb411) ∧ (IsS93 w0 w' g s0_0 x1001_1) ∧ (KeepBut w w' g none) ∧ (Below w0.heap.size w0 w')) ?_ ?_
      rotate_left
      · intro hCont
        refine two_ (i := 1) (j := 7) (Ni := some 19) (Nj := some 7) (bs 10 7) (bs 10 133) rfl rfl rfl rfl (two_of HT_.out (by kernel_rfl)) (by decide) (by decide) (fun K hK => ?_) (fun K hK => ?_)
        · skip
          refine gs Try.func82 #[.agg #[.slice A1_0 l1_0.length c1_0, .slice A1_1 l1_1.length c1_1]] rfl rfl ?_
          with_reducible refine (spec_l11Copy.calls k1 _ _ l1_0 _ _ l1_1 t413 t416 _ ?side1 ?side2 ?side3 ?side4 A21.out).mono ?_
          (case side1 => exact Kd.C_foot_now HR1_0.out (zh HK))
          (case side2 => exact HC1_0.out)
          (case side3 => exact Kd.C_foot_now HR1_1.out (zh HK))
          (case side4 => exact HC1_1.out)
          rintro e w45 ⟨v414, v417, rfl, ho0, ho1, hb⟩
          refine ⟨_, rfl, ?_⟩
          have HO415 := am (Kd.R_lower ho0 (keep_size (zh HK)))
          have HO418 := am (Kd.S_lower ho1 (keep_size (zh HK)))
          replace BK403 := am (blk_below (zk BK403) hb)
          replace BK404 := am (blk_below (zk BK404) hb)
          replace BK411 := am (blk_below (zk BK411) hb)
          replace HI0 := am (IsS93.below (zi HI0) hb)
          replace HK := am (KeepBut.trans (zh HK) (KeepBut.of_below hb g none) (.inl rfl))
          replace HB := am (below_step (zb HB) hb)
          (try clear hb)
          (try clear hb2)
          (try clear hk)
          (try clear hi)
          (try clear ho0)
          (try clear ho1)
          obtain ⟨Ao46, co46, eo46⟩ := Kd.R_slice HO415.out
          (first | subst eo46 | (injection eo46 with f1_ f2_ f3_; have f4_ := f1_.symm; have f5_ := f3_.symm; clear f1_ f2_ f3_; subst f4_; subst f5_))
          obtain ⟨Ao47, co47, eo47⟩ := Kd.S_slice HO418.out
          (first | subst eo47 | (injection eo47 with f1_ f2_ f3_; have f4_ := f1_.symm; have f5_ := f3_.symm; clear f1_ f2_ f3_; subst f4_; subst f5_))
          refine hK.out _ _ ⟨ce0 BK403, ce1 BK403, ce0 BK411, ce1 BK411, ce2 BK411, ce3 BK411, ce4 BK411⟩ (fun hHeld => ?_)
          clear hK K
          refine norm_ (a' := ?_) ?_ ?_
          rotate_left
          · show Act.put _ (some 19) _ = _
            simp only [Act.put, List.setIfInBounds_toArray, List.set_cons_zero, List.set_cons_succ, i64_w, i32_w]
            rfl
          refine two_ (i := 3) (j := 7) (Ni := some 21) (Nj := some 7) (bs 10 15) (bs 10 135) rfl rfl rfl rfl (two_of HT_.out (by kernel_rfl)) (by decide) (by decide) (fun K hK => ?_) (fun K hK => ?_)
          · skip
            refine gs Try.func81 #[.agg #[.slice Ao46 t413.length co46, .slice Ao47 t416.length co47], .agg #[.int .i64 x412000_1, .string x412001_1, .string x412002_1, .int .i64 x412003_1, .string x412004_1]] rfl rfl ?_
            with_reducible refine (spec_l12Do.callsB k1 (fun k_ => some k_ = (.slice Ao46 t413.length co46 : Value).ownBlock) (.slice Ao46 t413.length co46) t413 (fun k_ => some k_ = (.slice Ao47 t416.length co47 : Value).ownBlock) (.slice Ao47 t416.length co47) t416 x412000_1 x412001_1 x412002_1 x412003_1 x412004_1 t419 t422 false w0 _ w.heap.size ?side1 HL.out ?sbw ?side2 ?side3 A22.out).mono ?_
            (case side1 => exact zb HB)
            (case side2 => exact Kd.R_tight rfl HO415.out)
            (case side3 => exact Kd.S_mono (HO418.out) (fun _ _ => trivial))
            (case sbw => exact keep_size (w := w) (g := g) (row := none) (zh HK))
            rintro e w48 ⟨v420, v423, rfl, ho0, ho1, hb, hkp⟩
            refine ⟨_, rfl, ?_⟩
            replace BK403 := am (blk_kept (zk BK403) hkp (fun hs_ => Or.elim hs_ (fun e_ => (fun e_ => (Kd.R_ne HO415.out BK403.out (by decide)) e_) e_) (fun e_ => (fun e_ => (Kd.S_ne HO418.out BK403.out (by decide)) e_) e_)))
            replace BK404 := am (blk_kept (zk BK404) hkp (fun hs_ => Or.elim hs_ (fun e_ => (fun e_ => (Kd.R_ne HO415.out BK404.out (by decide)) e_) e_) (fun e_ => (fun e_ => (Kd.S_ne HO418.out BK404.out (by decide)) e_) e_)))
            replace BK411 := am (blk_kept (zk BK411) hkp (fun hs_ => Or.elim hs_ (fun e_ => (fun e_ => (Kd.R_ne HO415.out BK411.out (by decide)) e_) e_) (fun e_ => (fun e_ => (Kd.S_ne HO418.out BK411.out (by decide)) e_) e_)))
            replace HI0 := am (IsS93.kept (zi HI0) hkp (fun hs_ => Or.elim hs_ (fun e_ => (fun e_ => (IsS93.own_ne HI0.out HO415.out (by decide)) e_) e_) (fun e_ => (fun e_ => (IsS93.own_neS HI0.out HO418.out (by decide)) e_) e_)))
            have HO421 := am (ho0)
            have HO424 := am (ho1)
            replace HK := am (Kept.keepG (zh HK) hkp (fun k_ hs_ => Or.elim hs_ (fun e_ => (fun e_ => .inr (Kd.R_base HO415.out k_ e_.symm)) e_) (fun e_ => (fun e_ => .inr (Kd.S_base HO418.out k_ e_.symm)) e_)))
            replace HB := am (hb)
            clear HO415 HO418
            (try clear hb)
            (try clear hkp)
            (try clear ho0)
            (try clear ho1)
            refine hK.out _ _ ⟨ce0 BK403, ce1 BK403, ce0 BK411, ce1 BK411, ce2 BK411, ce3 BK411, ce4 BK411⟩ (fun hHeld => ?_)
            clear hK K
            refine norm_ (a' := ?_) ?_ ?_
            rotate_left
            · show Act.put _ (some 21) _ = _
              simp only [Act.put, List.setIfInBounds_toArray, List.set_cons_zero, List.set_cons_succ, i64_w, i32_w]
              rfl
            refine pu 4 17 10 31 rfl rfl ?_
            refine pu 5 22 10 63 rfl rfl ?_
            refine pu 6 23 10 127 rfl rfl ?_
            refine oz 7 10 255 rfl rfl (fun K hK => ?_)
            refine box_step ?hg (N := 7) ?hd (cs := #[.slice none 0 0, .slice none 0 0]) (t := 31) ?hr ?_; (case hd => rfl); (case hg => rfl); (case hr => first | (go_simp; done) | (go_simp; rfl))
            intro gb426 hg w49 hbox hb
            replace HO421 := am (Kd.R_below (zr HO421) hb)
            replace HO424 := am (Kd.S_below (zs HO424) hb)
            replace HB := am (below_step (zb HB) hb)
            have BK426 := am (hbox)
            have GW426 := am (zm hg (zh HK))
            have GE426 := am ((Nat.le_trans HW0.out (zm hg (zh HK))))
            replace HK := am (KeepBut.trans (zh HK) (KeepBut.of_below hb g none) (.inl rfl))
            have NB403_426 := am (zx hg (zk BK403))
            have NB426_403 := am (zy hg (zk BK403))
            replace BK403 := am (blk_below (zk BK403) hb)
            have NB404_426 := am (zx hg (zk BK404))
            have NB426_404 := am (zy hg (zk BK404))
            replace BK404 := am (blk_below (zk BK404) hb)
            have NB411_426 := am (zx hg (zk BK411))
            have NB426_411 := am (zy hg (zk BK411))
            replace BK411 := am (blk_below (zk BK411) hb)
            have NB0_426 := am (ix hg (zi HI0))
            have NB426_0 := am (iy hg (zi HI0))
            replace HI0 := am (IsS93.below (zi HI0) hb)
            clear hb hbox hg
            refine hK.out _ _ ⟨ce0 BK403, ce1 BK403, ce0 BK411, ce1 BK411, ce2 BK411, ce3 BK411, ce4 BK411⟩ (fun hHeld => ?_)
            clear hK K
            refine norm_ (a' := ?_) ?_ ?_
            rotate_left
            · show Act.put _ (some 7) _ = _
              simp only [Act.put, List.setIfInBounds_toArray, List.set_cons_zero, List.set_cons_succ, i64_w, i32_w]
              rfl
            exact norm_ (by simp only [putAll, Act.put, List.setIfInBounds_toArray, List.set_cons_zero, List.set_cons_succ]) (hCont (.slice Ao46 t413.length co46, .slice Ao47 t416.length co47, v420, v423, gb426) _ ⟨hHeld, (zr HO421), (zs HO424), (zk BK403), (zk BK404), (zk BK411), (zk BK426), GW426.out, GE426.out, NB0_426.out, NB426_0.out, NB403_426.out, NB426_403.out, NB404_426.out, NB426_404.out, NB411_426.out, NB426_411.out, (zi HI0), (zh HK), (zb HB)⟩)
          skip
          refine box_step ?hg (N := 7) ?hd (cs := #[.slice none 0 0, .slice none 0 0]) (t := 31) ?hr ?_; (case hd => rfl); (case hg => rfl); (case hr => first | (go_simp; done) | (go_simp; rfl))
          intro gb426 hg w46 hbox hb
          replace HO415 := am (Kd.R_below (zr HO415) hb)
          replace HO418 := am (Kd.S_below (zs HO418) hb)
          replace HB := am (below_step (zb HB) hb)
          have BK426 := am (hbox)
          have GW426 := am (zm hg (zh HK))
          have GE426 := am ((Nat.le_trans HW0.out (zm hg (zh HK))))
          replace HK := am (KeepBut.trans (zh HK) (KeepBut.of_below hb g none) (.inl rfl))
          have NB403_426 := am (zx hg (zk BK403))
          have NB426_403 := am (zy hg (zk BK403))
          replace BK403 := am (blk_below (zk BK403) hb)
          have NB404_426 := am (zx hg (zk BK404))
          have NB426_404 := am (zy hg (zk BK404))
          replace BK404 := am (blk_below (zk BK404) hb)
          have NB411_426 := am (zx hg (zk BK411))
          have NB426_411 := am (zy hg (zk BK411))
          replace BK411 := am (blk_below (zk BK411) hb)
          have NB0_426 := am (ix hg (zi HI0))
          have NB426_0 := am (iy hg (zi HI0))
          replace HI0 := am (IsS93.below (zi HI0) hb)
          clear hb hbox hg
          obtain ⟨Ao47, co47, eo47⟩ := Kd.R_slice HO415.out
          (first | subst eo47 | (injection eo47 with f1_ f2_ f3_; have f4_ := f1_.symm; have f5_ := f3_.symm; clear f1_ f2_ f3_; subst f4_; subst f5_))
          obtain ⟨Ao48, co48, eo48⟩ := Kd.S_slice HO418.out
          (first | subst eo48 | (injection eo48 with f1_ f2_ f3_; have f4_ := f1_.symm; have f5_ := f3_.symm; clear f1_ f2_ f3_; subst f4_; subst f5_))
          refine hK.out _ _ ⟨ce0 BK403, ce1 BK403, ce0 BK411, ce1 BK411, ce2 BK411, ce3 BK411, ce4 BK411⟩ (fun hHeld => ?_)
          clear hK K
          refine norm_ (a' := ?_) ?_ ?_
          rotate_left
          · show Act.put _ (some 7) _ = _
            simp only [Act.put, List.setIfInBounds_toArray, List.set_cons_zero, List.set_cons_succ, i64_w, i32_w]
            rfl
          refine oz 3 10 143 rfl rfl (fun K hK => ?_)
          refine gs Try.func81 #[.agg #[.slice Ao47 t413.length co47, .slice Ao48 t416.length co48], .agg #[.int .i64 x412000_1, .string x412001_1, .string x412002_1, .int .i64 x412003_1, .string x412004_1]] rfl rfl ?_
          with_reducible refine (spec_l12Do.callsB k1 (fun k_ => some k_ = (.slice Ao47 t413.length co47 : Value).ownBlock) (.slice Ao47 t413.length co47) t413 (fun k_ => some k_ = (.slice Ao48 t416.length co48 : Value).ownBlock) (.slice Ao48 t416.length co48) t416 x412000_1 x412001_1 x412002_1 x412003_1 x412004_1 t419 t422 false w0 _ w.heap.size ?side1 HL.out ?sbw ?side2 ?side3 A22.out).mono ?_
          (case side1 => exact zb HB)
          (case side2 => exact Kd.R_tight rfl HO415.out)
          (case side3 => exact Kd.S_mono (HO418.out) (fun _ _ => trivial))
          (case sbw => exact keep_size (w := w) (g := g) (row := none) (zh HK))
          rintro e w49 ⟨v420, v423, rfl, ho0, ho1, hb, hkp⟩
          refine ⟨_, rfl, ?_⟩
          replace BK403 := am (blk_kept (zk BK403) hkp (fun hs_ => Or.elim hs_ (fun e_ => (fun e_ => (Kd.R_ne HO415.out BK403.out (by decide)) e_) e_) (fun e_ => (fun e_ => (Kd.S_ne HO418.out BK403.out (by decide)) e_) e_)))
          replace BK404 := am (blk_kept (zk BK404) hkp (fun hs_ => Or.elim hs_ (fun e_ => (fun e_ => (Kd.R_ne HO415.out BK404.out (by decide)) e_) e_) (fun e_ => (fun e_ => (Kd.S_ne HO418.out BK404.out (by decide)) e_) e_)))
          replace BK411 := am (blk_kept (zk BK411) hkp (fun hs_ => Or.elim hs_ (fun e_ => (fun e_ => (Kd.R_ne HO415.out BK411.out (by decide)) e_) e_) (fun e_ => (fun e_ => (Kd.S_ne HO418.out BK411.out (by decide)) e_) e_)))
          replace HI0 := am (IsS93.kept (zi HI0) hkp (fun hs_ => Or.elim hs_ (fun e_ => (fun e_ => (IsS93.own_ne HI0.out HO415.out (by decide)) e_) e_) (fun e_ => (fun e_ => (IsS93.own_neS HI0.out HO418.out (by decide)) e_) e_)))
          replace BK426 := am (blk_kept (zk BK426) hkp (fun hs_ => Or.elim hs_ (fun e_ => (fun e_ => (Kd.R_ne HO415.out BK426.out (by decide)) e_) e_) (fun e_ => (fun e_ => (Kd.S_ne HO418.out BK426.out (by decide)) e_) e_)))
          have HO421 := am (ho0)
          have HO424 := am (ho1)
          replace HK := am (Kept.keepG (zh HK) hkp (fun k_ hs_ => Or.elim hs_ (fun e_ => (fun e_ => .inr (Kd.R_base HO415.out k_ e_.symm)) e_) (fun e_ => (fun e_ => .inr (Kd.S_base HO418.out k_ e_.symm)) e_)))
          replace HB := am (hb)
          clear HO415 HO418
          (try clear hb)
          (try clear hkp)
          (try clear ho0)
          (try clear ho1)
          refine hK.out _ _ ⟨ce0 BK403, ce1 BK403, ce0 BK411, ce1 BK411, ce2 BK411, ce3 BK411, ce4 BK411⟩ (fun hHeld => ?_)
          clear hK K
          refine norm_ (a' := ?_) ?_ ?_
          rotate_left
          · show Act.put _ (some 21) _ = _
            simp only [Act.put, List.setIfInBounds_toArray, List.set_cons_zero, List.set_cons_succ, i64_w, i32_w]
            rfl
          refine pu 4 17 10 159 rfl rfl ?_
          refine pu 5 22 10 191 rfl rfl ?_
          refine pu 6 23 10 255 rfl rfl ?_
          exact norm_ (by simp only [putAll, Act.put, List.setIfInBounds_toArray, List.set_cons_zero, List.set_cons_succ]) (hCont (.slice Ao47 t413.length co47, .slice Ao48 t416.length co48, v420, v423, gb426) _ ⟨hHeld, (zr HO421), (zs HO424), (zk BK403), (zk BK404), (zk BK411), (zk BK426), GW426.out, GE426.out, NB0_426.out, NB426_0.out, NB403_426.out, NB426_403.out, NB404_426.out, NB426_404.out, NB411_426.out, NB426_411.out, (zi HI0), (zh HK), (zb HB)⟩)
        skip
        refine box_step ?hg (N := 7) ?hd (cs := #[.slice none 0 0, .slice none 0 0]) (t := 31) ?hr ?_; (case hd => rfl); (case hg => rfl); (case hr => first | (go_simp; done) | (go_simp; rfl))
        intro gb426 hg w45 hbox hb
        replace HB := am (below_step (zb HB) hb)
        have BK426 := am (hbox)
        have GW426 := am (zm hg (zh HK))
        have GE426 := am ((Nat.le_trans HW0.out (zm hg (zh HK))))
        replace HK := am (KeepBut.trans (zh HK) (KeepBut.of_below hb g none) (.inl rfl))
        have NB403_426 := am (zx hg (zk BK403))
        have NB426_403 := am (zy hg (zk BK403))
        replace BK403 := am (blk_below (zk BK403) hb)
        have NB404_426 := am (zx hg (zk BK404))
        have NB426_404 := am (zy hg (zk BK404))
        replace BK404 := am (blk_below (zk BK404) hb)
        have NB411_426 := am (zx hg (zk BK411))
        have NB426_411 := am (zy hg (zk BK411))
        replace BK411 := am (blk_below (zk BK411) hb)
        have NB0_426 := am (ix hg (zi HI0))
        have NB426_0 := am (iy hg (zi HI0))
        replace HI0 := am (IsS93.below (zi HI0) hb)
        clear hb hbox hg
        refine hK.out _ _ ⟨ce0 BK403, ce1 BK403, ce0 BK411, ce1 BK411, ce2 BK411, ce3 BK411, ce4 BK411⟩ (fun hHeld => ?_)
        clear hK K
        refine norm_ (a' := ?_) ?_ ?_
        rotate_left
        · show Act.put _ (some 7) _ = _
          simp only [Act.put, List.setIfInBounds_toArray, List.set_cons_zero, List.set_cons_succ, i64_w, i32_w]
          rfl
        refine oz 1 10 135 rfl rfl (fun K hK => ?_)
        refine gs Try.func82 #[.agg #[.slice A1_0 l1_0.length c1_0, .slice A1_1 l1_1.length c1_1]] rfl rfl ?_
        with_reducible refine (spec_l11Copy.calls k1 _ _ l1_0 _ _ l1_1 t413 t416 _ ?side1 ?side2 ?side3 ?side4 A21.out).mono ?_
        (case side1 => exact Kd.C_foot_now HR1_0.out (zh HK))
        (case side2 => exact HC1_0.out)
        (case side3 => exact Kd.C_foot_now HR1_1.out (zh HK))
        (case side4 => exact HC1_1.out)
        rintro e w46 ⟨v414, v417, rfl, ho0, ho1, hb⟩
        refine ⟨_, rfl, ?_⟩
        have HO415 := am (Kd.R_lower ho0 (keep_size (zh HK)))
        have HO418 := am (Kd.S_lower ho1 (keep_size (zh HK)))
        replace BK403 := am (blk_below (zk BK403) hb)
        replace BK404 := am (blk_below (zk BK404) hb)
        replace BK411 := am (blk_below (zk BK411) hb)
        replace HI0 := am (IsS93.below (zi HI0) hb)
        replace BK426 := am (blk_below (zk BK426) hb)
        replace HK := am (KeepBut.trans (zh HK) (KeepBut.of_below hb g none) (.inl rfl))
        replace HB := am (below_step (zb HB) hb)
        (try clear hb)
        (try clear hb2)
        (try clear hk)
        (try clear hi)
        (try clear ho0)
        (try clear ho1)
        obtain ⟨Ao47, co47, eo47⟩ := Kd.R_slice HO415.out
        (first | subst eo47 | (injection eo47 with f1_ f2_ f3_; have f4_ := f1_.symm; have f5_ := f3_.symm; clear f1_ f2_ f3_; subst f4_; subst f5_))
        obtain ⟨Ao48, co48, eo48⟩ := Kd.S_slice HO418.out
        (first | subst eo48 | (injection eo48 with f1_ f2_ f3_; have f4_ := f1_.symm; have f5_ := f3_.symm; clear f1_ f2_ f3_; subst f4_; subst f5_))
        refine hK.out _ _ ⟨ce0 BK403, ce1 BK403, ce0 BK411, ce1 BK411, ce2 BK411, ce3 BK411, ce4 BK411⟩ (fun hHeld => ?_)
        clear hK K
        refine norm_ (a' := ?_) ?_ ?_
        rotate_left
        · show Act.put _ (some 19) _ = _
          simp only [Act.put, List.setIfInBounds_toArray, List.set_cons_zero, List.set_cons_succ, i64_w, i32_w]
          rfl
        refine oz 3 10 143 rfl rfl (fun K hK => ?_)
        refine gs Try.func81 #[.agg #[.slice Ao47 t413.length co47, .slice Ao48 t416.length co48], .agg #[.int .i64 x412000_1, .string x412001_1, .string x412002_1, .int .i64 x412003_1, .string x412004_1]] rfl rfl ?_
        with_reducible refine (spec_l12Do.callsB k1 (fun k_ => some k_ = (.slice Ao47 t413.length co47 : Value).ownBlock) (.slice Ao47 t413.length co47) t413 (fun k_ => some k_ = (.slice Ao48 t416.length co48 : Value).ownBlock) (.slice Ao48 t416.length co48) t416 x412000_1 x412001_1 x412002_1 x412003_1 x412004_1 t419 t422 false w0 _ w.heap.size ?side1 HL.out ?sbw ?side2 ?side3 A22.out).mono ?_
        (case side1 => exact zb HB)
        (case side2 => exact Kd.R_tight rfl HO415.out)
        (case side3 => exact Kd.S_mono (HO418.out) (fun _ _ => trivial))
        (case sbw => exact keep_size (w := w) (g := g) (row := none) (zh HK))
        rintro e w49 ⟨v420, v423, rfl, ho0, ho1, hb, hkp⟩
        refine ⟨_, rfl, ?_⟩
        replace BK403 := am (blk_kept (zk BK403) hkp (fun hs_ => Or.elim hs_ (fun e_ => (fun e_ => (Kd.R_ne HO415.out BK403.out (by decide)) e_) e_) (fun e_ => (fun e_ => (Kd.S_ne HO418.out BK403.out (by decide)) e_) e_)))
        replace BK404 := am (blk_kept (zk BK404) hkp (fun hs_ => Or.elim hs_ (fun e_ => (fun e_ => (Kd.R_ne HO415.out BK404.out (by decide)) e_) e_) (fun e_ => (fun e_ => (Kd.S_ne HO418.out BK404.out (by decide)) e_) e_)))
        replace BK411 := am (blk_kept (zk BK411) hkp (fun hs_ => Or.elim hs_ (fun e_ => (fun e_ => (Kd.R_ne HO415.out BK411.out (by decide)) e_) e_) (fun e_ => (fun e_ => (Kd.S_ne HO418.out BK411.out (by decide)) e_) e_)))
        replace HI0 := am (IsS93.kept (zi HI0) hkp (fun hs_ => Or.elim hs_ (fun e_ => (fun e_ => (IsS93.own_ne HI0.out HO415.out (by decide)) e_) e_) (fun e_ => (fun e_ => (IsS93.own_neS HI0.out HO418.out (by decide)) e_) e_)))
        replace BK426 := am (blk_kept (zk BK426) hkp (fun hs_ => Or.elim hs_ (fun e_ => (fun e_ => (Kd.R_ne HO415.out BK426.out (by decide)) e_) e_) (fun e_ => (fun e_ => (Kd.S_ne HO418.out BK426.out (by decide)) e_) e_)))
        have HO421 := am (ho0)
        have HO424 := am (ho1)
        replace HK := am (Kept.keepG (zh HK) hkp (fun k_ hs_ => Or.elim hs_ (fun e_ => (fun e_ => .inr (Kd.R_base HO415.out k_ e_.symm)) e_) (fun e_ => (fun e_ => .inr (Kd.S_base HO418.out k_ e_.symm)) e_)))
        replace HB := am (hb)
        clear HO415 HO418
        (try clear hb)
        (try clear hkp)
        (try clear ho0)
        (try clear ho1)
        refine hK.out _ _ ⟨ce0 BK403, ce1 BK403, ce0 BK411, ce1 BK411, ce2 BK411, ce3 BK411, ce4 BK411⟩ (fun hHeld => ?_)
        clear hK K
        refine norm_ (a' := ?_) ?_ ?_
        rotate_left
        · show Act.put _ (some 21) _ = _
          simp only [Act.put, List.setIfInBounds_toArray, List.set_cons_zero, List.set_cons_succ, i64_w, i32_w]
          rfl
        refine pu 4 17 10 159 rfl rfl ?_
        refine pu 5 22 10 191 rfl rfl ?_
        refine pu 6 23 10 255 rfl rfl ?_
        exact norm_ (by simp only [putAll, Act.put, List.setIfInBounds_toArray, List.set_cons_zero, List.set_cons_succ]) (hCont (.slice Ao47 t413.length co47, .slice Ao48 t416.length co48, v420, v423, gb426) _ ⟨hHeld, (zr HO421), (zs HO424), (zk BK403), (zk BK404), (zk BK411), (zk BK426), GW426.out, GE426.out, NB0_426.out, NB426_0.out, NB403_426.out, NB426_403.out, NB404_426.out, NB426_404.out, NB411_426.out, NB426_411.out, (zi HI0), (zh HK), (zb HB)⟩)
      rintro ⟨v414, v417, v420, v423, gb426⟩ w50 ⟨hS_, h0_, h1_, h2_, h3_, h4_, h5_, h6_, h7_, h8_, h9_, h10_, h11_, h12_, h13_, h14_, h15_, h16_, h17_, h18_⟩
      have HO421 : Aside0 (Kd.R k55 55 w50 w.heap.size (fun _ => True) v420 t419) := ⟨h0_⟩
      have HO424 : Aside0 (Kd.S k38 38 w50 w.heap.size (fun _ => True) v423 t422) := ⟨h1_⟩
      replace BK403 : Aside0 (w50.heap[gb403]? = some (.cells #[.slice A1_0 l1_0.length c1_0, .slice A1_1 l1_1.length c1_1] 31 (0, 0))) := ⟨h2_⟩
      replace BK404 : Aside0 (w50.heap[gb404]? = some (.cells #[.int .i64 x405000_1, .string x405001_1, .string x405002_1, .int .i64 x405003_1, .string x405004_1] 103 (0, 0))) := ⟨h3_⟩
      replace BK411 : Aside0 (w50.heap[gb411]? = some (.cells #[.int .i64 x412000_1, .string x412001_1, .string x412002_1, .int .i64 x412003_1, .string x412004_1] 103 (0, 0))) := ⟨h4_⟩
      have BK426 : Aside0 (w50.heap[gb426]? = some (.cells #[.slice none 0 0, .slice none 0 0] 31 (0, 0))) := ⟨h5_⟩
      have GW426 : Aside0 (w.heap.size ≤ gb426) := ⟨h6_⟩
      have GE426 : Aside0 (w0.heap.size ≤ gb426) := ⟨h7_⟩
      have NB0_426 : Aside0 (g ≠ gb426) := ⟨h8_⟩
      have NB426_0 : Aside0 (gb426 ≠ g) := ⟨h9_⟩
      have NB403_426 : Aside0 (gb403 ≠ gb426) := ⟨h10_⟩
      have NB426_403 : Aside0 (gb426 ≠ gb403) := ⟨h11_⟩
      have NB404_426 : Aside0 (gb404 ≠ gb426) := ⟨h12_⟩
      have NB426_404 : Aside0 (gb426 ≠ gb404) := ⟨h13_⟩
      have NB411_426 : Aside0 (gb411 ≠ gb426) := ⟨h14_⟩
      have NB426_411 : Aside0 (gb426 ≠ gb411) := ⟨h15_⟩
      replace HI0 : Aside0 (IsS93 w0 w50 g s0_0 x1001_1) := ⟨h16_⟩
      replace HK : Aside0 (KeepBut w w50 g none) := ⟨h17_⟩
      replace HB : Aside0 (Below w0.heap.size w0 w50) := ⟨h18_⟩
      clear h0_ h1_ h2_ h3_ h4_ h5_ h6_ h7_ h8_ h9_ h10_ h11_ h12_ h13_ h14_ h15_ h16_ h17_ h18_
      have hHeld : w50.cell? ⟨gb403, 0, none⟩ = some (.slice A1_0 l1_0.length c1_0) ∧ w50.cell? ⟨gb403, 1, none⟩ = some (.slice A1_1 l1_1.length c1_1) ∧ w50.cell? ⟨gb411, 0, none⟩ = some (.int .i64 x412000_1) ∧ w50.cell? ⟨gb411, 1, none⟩ = some (.string x412001_1) ∧ w50.cell? ⟨gb411, 2, none⟩ = some (.string x412002_1) ∧ w50.cell? ⟨gb411, 3, none⟩ = some (.int .i64 x412003_1) ∧ w50.cell? ⟨gb411, 4, none⟩ = some (.string x412004_1) := hS_
      obtain ⟨Ao51, co51, eo51⟩ := Kd.R_slice HO421.out
      (first | subst eo51 | (injection eo51 with f1_ f2_ f3_; have f4_ := f1_.symm; have f5_ := f3_.symm; clear f1_ f2_ f3_; subst f4_; subst f5_))
      obtain ⟨Ao53, co53, eo53⟩ := Kd.S_slice HO424.out
      (first | subst eo53 | (injection eo53 with f1_ f2_ f3_; have f4_ := f1_.symm; have f5_ := f3_.symm; clear f1_ f2_ f3_; subst f4_; subst f5_))
      refine norm_ (a' := ?_) ?_ ?_
      rotate_left
      · simp only [putAll, Act.put, List.setIfInBounds_toArray, List.set_cons_zero, List.set_cons_succ]
        rfl
      refine oz 8 10 511 rfl rfl (fun K hK => ?_)
      have hs52 := ce0 BK426
      have hfs52 := bfz BK426 0
      have hns52_0 := NB403_426.out
      have hns52_1 := NB404_426.out
      have hns52_2 := NB411_426.out
      have hms52_0 := NB426_403.out
      have hms52_1 := NB426_404.out
      have hms52_2 := NB426_411.out
      have hs54 := ce1 BK426
      have hfs54 := bfz BK426 1
      have hns54_0 := NB403_426.out
      have hns54_1 := NB404_426.out
      have hns54_2 := NB411_426.out
      have hms54_0 := NB426_403.out
      have hms54_1 := NB426_404.out
      have hms54_2 := NB426_411.out
      refine skip_ (w1 := ?_) (by rfl) rfl ?_ ?_
      rotate_left
      · go_simp
        rfl
      refine hK.out _ _ ⟨((cell_far (p := ⟨gb426, _, none⟩) NB403_426.out _).trans (((cell_far (p := ⟨gb426, _, none⟩) NB403_426.out _).trans (hHeld.1)))), ((cell_far (p := ⟨gb426, _, none⟩) NB403_426.out _).trans (((cell_far (p := ⟨gb426, _, none⟩) NB403_426.out _).trans (hHeld.2.1)))), ((cell_far (p := ⟨gb426, _, none⟩) NB411_426.out _).trans (((cell_far (p := ⟨gb426, _, none⟩) NB411_426.out _).trans (hHeld.2.2.1)))), ((cell_far (p := ⟨gb426, _, none⟩) NB411_426.out _).trans (((cell_far (p := ⟨gb426, _, none⟩) NB411_426.out _).trans (hHeld.2.2.2.1)))), ((cell_far (p := ⟨gb426, _, none⟩) NB411_426.out _).trans (((cell_far (p := ⟨gb426, _, none⟩) NB411_426.out _).trans (hHeld.2.2.2.2.1)))), ((cell_far (p := ⟨gb426, _, none⟩) NB411_426.out _).trans (((cell_far (p := ⟨gb426, _, none⟩) NB411_426.out _).trans (hHeld.2.2.2.2.2.1)))), ((cell_far (p := ⟨gb426, _, none⟩) NB411_426.out _).trans (((cell_far (p := ⟨gb426, _, none⟩) NB411_426.out _).trans (hHeld.2.2.2.2.2.2))))⟩ (fun hHeld => ?_)
      clear hK K
      refine pu 9 8 10 1023 rfl rfl ?_
      refine done_ (done_of HT_.out (by kernel_rfl)) ?_
      try go_wp2
      go_meet
      case rel => exact ⟨_, (x405000_1), (x405001_1), (x405002_1), (x405003_1), (x405004_1), H', ⟨by have := HK1.out; first | omega | exact Nat.le_refl _⟩, ⟨zk BK403⟩, ⟨zk BK404⟩, ⟨zk BK411⟩, ⟨zi HI0⟩, ⟨zh HK⟩, ⟨zb HB⟩⟩
    subst c23
    have H1 : (some (x412000_1, x412001_1, x412002_1, x412003_1, x412004_1, x1001_1)) = some (r1, r2, r3, r4, r5, r6) := by rw [if_pos rfl] at H; exact H
    clear H
    have H := H1
    clear H1
    simp only [Option.some.injEq, Prod.mk.injEq] at H
    obtain ⟨rfl, rfl, rfl, rfl, rfl, rfl⟩ := H
    try go_wp2
    replace BK403 := am (blk_drew BK403.out)
    replace BK404 := am (blk_drew BK404.out)
    replace BK411 := am (blk_drew BK411.out)
    replace HI0 := am (IsS93.drew HI0.out)
    replace HK := am (keep_drew HK.out)
    replace HB := am (below_drew1 HB.out)
    refine start_ (n := 10) (S := fun w' => w'.cell? ⟨gb403, 0, none⟩ = some (.slice A1_0 l1_0.length c1_0) ∧ w'.cell? ⟨gb403, 1, none⟩ = some (.slice A1_1 l1_1.length c1_1) ∧ w'.cell? ⟨gb411, 0, none⟩ = some (.int .i64 x412000_1) ∧ w'.cell? ⟨gb411, 1, none⟩ = some (.string x412001_1) ∧ w'.cell? ⟨gb411, 2, none⟩ = some (.string x412002_1) ∧ w'.cell? ⟨gb411, 3, none⟩ = some (.int .i64 x412003_1) ∧ w'.cell? ⟨gb411, 4, none⟩ = some (.string x412004_1)) (ds := []) (bs 10 0) (by kernel_rfl) rfl rfl ⟨ce0 BK403, ce1 BK403, ce0 BK411, ce1 BK411, ce2 BK411, ce3 BK411, ce4 BK411⟩ (fun hHeld => ?_); refine with_tabW spec_l71Fits.tab6 spec_l71Fits.bits6 (fun HT_ HW_ => ?_)
    generalize w19.drew = w24 at BK403 BK404 BK411 HI0 HK HB hHeld ⊢
    refine ta7 0 18 10 1 rfl rfl hHeld ?_
    refine ta7 2 20 10 5 rfl rfl hHeld ?_
    refine join_ (σ := Value × Value × Value × Value × Nat) 2 (bs 10 255) (fun s_ => [(19, .agg #[s_.1, s_.2.1]), (21, .tuple #[.agg #[s_.2.2.1, s_.2.2.2.1], .bool true]), (7, .pointer (some ⟨s_.2.2.2.2, 0, none⟩)), (17, .tuple #[.agg #[s_.2.2.1, s_.2.2.2.1], .bool true]), (22, .agg #[s_.2.2.1, s_.2.2.2.1]), (23, .bool true)]) (fun s_ w' => (w'.cell? ⟨gb403, 0, none⟩ = some (.slice A1_0 l1_0.length c1_0) ∧ w'.cell? ⟨gb403, 1, none⟩ = some (.slice A1_1 l1_1.length c1_1) ∧ w'.cell? ⟨gb411, 0, none⟩ = some (.int .i64 x412000_1) ∧ w'.cell? ⟨gb411, 1, none⟩ = some (.string x412001_1) ∧ w'.cell? ⟨gb411, 2, none⟩ = some (.string x412002_1) ∧ w'.cell? ⟨gb411, 3, none⟩ = some (.int .i64 x412003_1) ∧ w'.cell? ⟨gb411, 4, none⟩ = some (.string x412004_1)) ∧ (Kd.R k55 55 w' w.heap.size (fun _ => True) s_.2.2.1 t419) ∧ (Kd.S k38 38 w' w.heap.size (fun _ => True) s_.2.2.2.1 t422) ∧ (w'.heap[gb403]? = some (.cells #[.slice A1_0 l1_0.length c1_0, .slice A1_1 l1_1.length c1_1] 31 (0, 0))) ∧ (w'.heap[gb404]? = some (.cells #[.int .i64 x405000_1, .string x405001_1, .string x405002_1, .int .i64 x405003_1, .string x405004_1] 103 (0, 0))) ∧ (w'.heap[gb411]? = some (.cells #[.int .i64 x412000_1, .string x412001_1, .string x412002_1, .int .i64 x412003_1, .string x412004_1] 103 (0, 0))) ∧ (w'.heap[s_.2.2.2.2]? = some (.cells #[.slice none 0 0, .slice none 0 0] 31 (0, 0))) ∧ (w.heap.size ≤ s_.2.2.2.2) ∧ (w0.heap.size ≤ s_.2.2.2.2) ∧ (g ≠ s_.2.2.2.2) ∧ (s_.2.2.2.2 ≠ g) ∧ (gb403 ≠ s_.2.2.2.2) ∧ (s_.2.2.2.2 ≠ gb403) ∧ (gb404 ≠ s_.2.2.2.2) ∧ (s_.2.2.2.2 ≠ gb404) ∧ (gb411 ≠ s_.2.2.2.2) ∧ (s_.2.2.2.2 ≠ gb411) ∧ (IsS93 w0 w' g s0_0 x1001_1) ∧ (KeepBut w w' g none) ∧ (Below w0.heap.size w0 w')) ?_ ?_
    rotate_left
    · intro hCont
      refine two_ (i := 1) (j := 7) (Ni := some 19) (Nj := some 7) (bs 10 7) (bs 10 133) rfl rfl rfl rfl (two_of HT_.out (by kernel_rfl)) (by decide) (by decide) (fun K hK => ?_) (fun K hK => ?_)
      · skip
        refine gs Try.func82 #[.agg #[.slice A1_0 l1_0.length c1_0, .slice A1_1 l1_1.length c1_1]] rfl rfl ?_
        with_reducible refine (spec_l11Copy.calls k1 _ _ l1_0 _ _ l1_1 t413 t416 _ ?side1 ?side2 ?side3 ?side4 A21.out).mono ?_
        (case side1 => exact Kd.C_foot_now HR1_0.out (zh HK))
        (case side2 => exact HC1_0.out)
        (case side3 => exact Kd.C_foot_now HR1_1.out (zh HK))
        (case side4 => exact HC1_1.out)
        rintro e w25 ⟨v414, v417, rfl, ho0, ho1, hb⟩
        refine ⟨_, rfl, ?_⟩
        have HO415 := am (Kd.R_lower ho0 (keep_size (zh HK)))
        have HO418 := am (Kd.S_lower ho1 (keep_size (zh HK)))
        replace BK403 := am (blk_below (zk BK403) hb)
        replace BK404 := am (blk_below (zk BK404) hb)
        replace BK411 := am (blk_below (zk BK411) hb)
        replace HI0 := am (IsS93.below (zi HI0) hb)
        replace HK := am (KeepBut.trans (zh HK) (KeepBut.of_below hb g none) (.inl rfl))
        replace HB := am (below_step (zb HB) hb)
        (try clear hb)
        (try clear hb2)
        (try clear hk)
        (try clear hi)
        (try clear ho0)
        (try clear ho1)
        obtain ⟨Ao26, co26, eo26⟩ := Kd.R_slice HO415.out
        (first | subst eo26 | (injection eo26 with f1_ f2_ f3_; have f4_ := f1_.symm; have f5_ := f3_.symm; clear f1_ f2_ f3_; subst f4_; subst f5_))
        obtain ⟨Ao27, co27, eo27⟩ := Kd.S_slice HO418.out
        (first | subst eo27 | (injection eo27 with f1_ f2_ f3_; have f4_ := f1_.symm; have f5_ := f3_.symm; clear f1_ f2_ f3_; subst f4_; subst f5_))
        refine hK.out _ _ ⟨ce0 BK403, ce1 BK403, ce0 BK411, ce1 BK411, ce2 BK411, ce3 BK411, ce4 BK411⟩ (fun hHeld => ?_)
        clear hK K
        refine norm_ (a' := ?_) ?_ ?_
        rotate_left
        · show Act.put _ (some 19) _ = _
          simp only [Act.put, List.setIfInBounds_toArray, List.set_cons_zero, List.set_cons_succ, i64_w, i32_w]
          rfl
        refine two_ (i := 3) (j := 7) (Ni := some 21) (Nj := some 7) (bs 10 15) (bs 10 135) rfl rfl rfl rfl (two_of HT_.out (by kernel_rfl)) (by decide) (by decide) (fun K hK => ?_) (fun K hK => ?_)
        · skip
          refine gs Try.func81 #[.agg #[.slice Ao26 t413.length co26, .slice Ao27 t416.length co27], .agg #[.int .i64 x412000_1, .string x412001_1, .string x412002_1, .int .i64 x412003_1, .string x412004_1]] rfl rfl ?_
          with_reducible refine (spec_l12Do.callsB k1 (fun k_ => some k_ = (.slice Ao26 t413.length co26 : Value).ownBlock) (.slice Ao26 t413.length co26) t413 (fun k_ => some k_ = (.slice Ao27 t416.length co27 : Value).ownBlock) (.slice Ao27 t416.length co27) t416 x412000_1 x412001_1 x412002_1 x412003_1 x412004_1 t419 t422 true w0 _ w.heap.size ?side1 HL.out ?sbw ?side2 ?side3 A22.out).mono ?_
          (case side1 => exact zb HB)
          (case side2 => exact Kd.R_tight rfl HO415.out)
          (case side3 => exact Kd.S_mono (HO418.out) (fun _ _ => trivial))
          (case sbw => exact keep_size (w := w) (g := g) (row := none) (zh HK))
          rintro e w28 ⟨v420, v423, rfl, ho0, ho1, hb, hkp⟩
          refine ⟨_, rfl, ?_⟩
          replace BK403 := am (blk_kept (zk BK403) hkp (fun hs_ => Or.elim hs_ (fun e_ => (fun e_ => (Kd.R_ne HO415.out BK403.out (by decide)) e_) e_) (fun e_ => (fun e_ => (Kd.S_ne HO418.out BK403.out (by decide)) e_) e_)))
          replace BK404 := am (blk_kept (zk BK404) hkp (fun hs_ => Or.elim hs_ (fun e_ => (fun e_ => (Kd.R_ne HO415.out BK404.out (by decide)) e_) e_) (fun e_ => (fun e_ => (Kd.S_ne HO418.out BK404.out (by decide)) e_) e_)))
          replace BK411 := am (blk_kept (zk BK411) hkp (fun hs_ => Or.elim hs_ (fun e_ => (fun e_ => (Kd.R_ne HO415.out BK411.out (by decide)) e_) e_) (fun e_ => (fun e_ => (Kd.S_ne HO418.out BK411.out (by decide)) e_) e_)))
          replace HI0 := am (IsS93.kept (zi HI0) hkp (fun hs_ => Or.elim hs_ (fun e_ => (fun e_ => (IsS93.own_ne HI0.out HO415.out (by decide)) e_) e_) (fun e_ => (fun e_ => (IsS93.own_neS HI0.out HO418.out (by decide)) e_) e_)))
          have HO421 := am (ho0)
          have HO424 := am (ho1)
          replace HK := am (Kept.keepG (zh HK) hkp (fun k_ hs_ => Or.elim hs_ (fun e_ => (fun e_ => .inr (Kd.R_base HO415.out k_ e_.symm)) e_) (fun e_ => (fun e_ => .inr (Kd.S_base HO418.out k_ e_.symm)) e_)))
          replace HB := am (hb)
          clear HO415 HO418
          (try clear hb)
          (try clear hkp)
          (try clear ho0)
          (try clear ho1)
          refine hK.out _ _ ⟨ce0 BK403, ce1 BK403, ce0 BK411, ce1 BK411, ce2 BK411, ce3 BK411, ce4 BK411⟩ (fun hHeld => ?_)
          clear hK K
          refine norm_ (a' := ?_) ?_ ?_
          rotate_left
          · show Act.put _ (some 21) _ = _
            simp only [Act.put, List.setIfInBounds_toArray, List.set_cons_zero, List.set_cons_succ, i64_w, i32_w]
            rfl
          refine pu 4 17 10 31 rfl rfl ?_
          refine pu 5 22 10 63 rfl rfl ?_
          refine pu 6 23 10 127 rfl rfl ?_
          refine oz 7 10 255 rfl rfl (fun K hK => ?_)
          refine box_step ?hg (N := 7) ?hd (cs := #[.slice none 0 0, .slice none 0 0]) (t := 31) ?hr ?_; (case hd => rfl); (case hg => rfl); (case hr => first | (go_simp; done) | (go_simp; rfl))
          intro gb426 hg w29 hbox hb
          replace HO421 := am (Kd.R_below (zr HO421) hb)
          replace HO424 := am (Kd.S_below (zs HO424) hb)
          replace HB := am (below_step (zb HB) hb)
          have BK426 := am (hbox)
          have GW426 := am (zm hg (zh HK))
          have GE426 := am ((Nat.le_trans HW0.out (zm hg (zh HK))))
          replace HK := am (KeepBut.trans (zh HK) (KeepBut.of_below hb g none) (.inl rfl))
          have NB403_426 := am (zx hg (zk BK403))
          have NB426_403 := am (zy hg (zk BK403))
          replace BK403 := am (blk_below (zk BK403) hb)
          have NB404_426 := am (zx hg (zk BK404))
          have NB426_404 := am (zy hg (zk BK404))
          replace BK404 := am (blk_below (zk BK404) hb)
          have NB411_426 := am (zx hg (zk BK411))
          have NB426_411 := am (zy hg (zk BK411))
          replace BK411 := am (blk_below (zk BK411) hb)
          have NB0_426 := am (ix hg (zi HI0))
          have NB426_0 := am (iy hg (zi HI0))
          replace HI0 := am (IsS93.below (zi HI0) hb)
          clear hb hbox hg
          refine hK.out _ _ ⟨ce0 BK403, ce1 BK403, ce0 BK411, ce1 BK411, ce2 BK411, ce3 BK411, ce4 BK411⟩ (fun hHeld => ?_)
          clear hK K
          refine norm_ (a' := ?_) ?_ ?_
          rotate_left
          · show Act.put _ (some 7) _ = _
            simp only [Act.put, List.setIfInBounds_toArray, List.set_cons_zero, List.set_cons_succ, i64_w, i32_w]
            rfl
          exact norm_ (by simp only [putAll, Act.put, List.setIfInBounds_toArray, List.set_cons_zero, List.set_cons_succ]) (hCont (.slice Ao26 t413.length co26, .slice Ao27 t416.length co27, v420, v423, gb426) _ ⟨hHeld, (zr HO421), (zs HO424), (zk BK403), (zk BK404), (zk BK411), (zk BK426), GW426.out, GE426.out, NB0_426.out, NB426_0.out, NB403_426.out, NB426_403.out, NB404_426.out, NB426_404.out, NB411_426.out, NB426_411.out, (zi HI0), (zh HK), (zb HB)⟩)
        skip
        refine box_step ?hg (N := 7) ?hd (cs := #[.slice none 0 0, .slice none 0 0]) (t := 31) ?hr ?_; (case hd => rfl); (case hg => rfl); (case hr => first | (go_simp; done) | (go_simp; rfl))
        intro gb426 hg w26 hbox hb
        replace HO415 := am (Kd.R_below (zr HO415) hb)
        replace HO418 := am (Kd.S_below (zs HO418) hb)
        replace HB := am (below_step (zb HB) hb)
        have BK426 := am (hbox)
        have GW426 := am (zm hg (zh HK))
        have GE426 := am ((Nat.le_trans HW0.out (zm hg (zh HK))))
        replace HK := am (KeepBut.trans (zh HK) (KeepBut.of_below hb g none) (.inl rfl))
        have NB403_426 := am (zx hg (zk BK403))
        have NB426_403 := am (zy hg (zk BK403))
        replace BK403 := am (blk_below (zk BK403) hb)
        have NB404_426 := am (zx hg (zk BK404))
        have NB426_404 := am (zy hg (zk BK404))
        replace BK404 := am (blk_below (zk BK404) hb)
        have NB411_426 := am (zx hg (zk BK411))
        have NB426_411 := am (zy hg (zk BK411))
        replace BK411 := am (blk_below (zk BK411) hb)
        have NB0_426 := am (ix hg (zi HI0))
        have NB426_0 := am (iy hg (zi HI0))
        replace HI0 := am (IsS93.below (zi HI0) hb)
        clear hb hbox hg
        obtain ⟨Ao27, co27, eo27⟩ := Kd.R_slice HO415.out
        (first | subst eo27 | (injection eo27 with f1_ f2_ f3_; have f4_ := f1_.symm; have f5_ := f3_.symm; clear f1_ f2_ f3_; subst f4_; subst f5_))
        obtain ⟨Ao28, co28, eo28⟩ := Kd.S_slice HO418.out
        (first | subst eo28 | (injection eo28 with f1_ f2_ f3_; have f4_ := f1_.symm; have f5_ := f3_.symm; clear f1_ f2_ f3_; subst f4_; subst f5_))
        refine hK.out _ _ ⟨ce0 BK403, ce1 BK403, ce0 BK411, ce1 BK411, ce2 BK411, ce3 BK411, ce4 BK411⟩ (fun hHeld => ?_)
        clear hK K
        refine norm_ (a' := ?_) ?_ ?_
        rotate_left
        · show Act.put _ (some 7) _ = _
          simp only [Act.put, List.setIfInBounds_toArray, List.set_cons_zero, List.set_cons_succ, i64_w, i32_w]
          rfl
        refine oz 3 10 143 rfl rfl (fun K hK => ?_)
        refine gs Try.func81 #[.agg #[.slice Ao27 t413.length co27, .slice Ao28 t416.length co28], .agg #[.int .i64 x412000_1, .string x412001_1, .string x412002_1, .int .i64 x412003_1, .string x412004_1]] rfl rfl ?_
        with_reducible refine (spec_l12Do.callsB k1 (fun k_ => some k_ = (.slice Ao27 t413.length co27 : Value).ownBlock) (.slice Ao27 t413.length co27) t413 (fun k_ => some k_ = (.slice Ao28 t416.length co28 : Value).ownBlock) (.slice Ao28 t416.length co28) t416 x412000_1 x412001_1 x412002_1 x412003_1 x412004_1 t419 t422 true w0 _ w.heap.size ?side1 HL.out ?sbw ?side2 ?side3 A22.out).mono ?_
        (case side1 => exact zb HB)
        (case side2 => exact Kd.R_tight rfl HO415.out)
        (case side3 => exact Kd.S_mono (HO418.out) (fun _ _ => trivial))
        (case sbw => exact keep_size (w := w) (g := g) (row := none) (zh HK))
        rintro e w29 ⟨v420, v423, rfl, ho0, ho1, hb, hkp⟩
        refine ⟨_, rfl, ?_⟩
        replace BK403 := am (blk_kept (zk BK403) hkp (fun hs_ => Or.elim hs_ (fun e_ => (fun e_ => (Kd.R_ne HO415.out BK403.out (by decide)) e_) e_) (fun e_ => (fun e_ => (Kd.S_ne HO418.out BK403.out (by decide)) e_) e_)))
        replace BK404 := am (blk_kept (zk BK404) hkp (fun hs_ => Or.elim hs_ (fun e_ => (fun e_ => (Kd.R_ne HO415.out BK404.out (by decide)) e_) e_) (fun e_ => (fun e_ => (Kd.S_ne HO418.out BK404.out (by decide)) e_) e_)))
        replace BK411 := am (blk_kept (zk BK411) hkp (fun hs_ => Or.elim hs_ (fun e_ => (fun e_ => (Kd.R_ne HO415.out BK411.out (by decide)) e_) e_) (fun e_ => (fun e_ => (Kd.S_ne HO418.out BK411.out (by decide)) e_) e_)))
        replace HI0 := am (IsS93.kept (zi HI0) hkp (fun hs_ => Or.elim hs_ (fun e_ => (fun e_ => (IsS93.own_ne HI0.out HO415.out (by decide)) e_) e_) (fun e_ => (fun e_ => (IsS93.own_neS HI0.out HO418.out (by decide)) e_) e_)))
        replace BK426 := am (blk_kept (zk BK426) hkp (fun hs_ => Or.elim hs_ (fun e_ => (fun e_ => (Kd.R_ne HO415.out BK426.out (by decide)) e_) e_) (fun e_ => (fun e_ => (Kd.S_ne HO418.out BK426.out (by decide)) e_) e_)))
        have HO421 := am (ho0)
        have HO424 := am (ho1)
        replace HK := am (Kept.keepG (zh HK) hkp (fun k_ hs_ => Or.elim hs_ (fun e_ => (fun e_ => .inr (Kd.R_base HO415.out k_ e_.symm)) e_) (fun e_ => (fun e_ => .inr (Kd.S_base HO418.out k_ e_.symm)) e_)))
        replace HB := am (hb)
        clear HO415 HO418
        (try clear hb)
        (try clear hkp)
        (try clear ho0)
        (try clear ho1)
        refine hK.out _ _ ⟨ce0 BK403, ce1 BK403, ce0 BK411, ce1 BK411, ce2 BK411, ce3 BK411, ce4 BK411⟩ (fun hHeld => ?_)
        clear hK K
        refine norm_ (a' := ?_) ?_ ?_
        rotate_left
        · show Act.put _ (some 21) _ = _
          simp only [Act.put, List.setIfInBounds_toArray, List.set_cons_zero, List.set_cons_succ, i64_w, i32_w]
          rfl
        refine pu 4 17 10 159 rfl rfl ?_
        refine pu 5 22 10 191 rfl rfl ?_
        refine pu 6 23 10 255 rfl rfl ?_
        exact norm_ (by simp only [putAll, Act.put, List.setIfInBounds_toArray, List.set_cons_zero, List.set_cons_succ]) (hCont (.slice Ao27 t413.length co27, .slice Ao28 t416.length co28, v420, v423, gb426) _ ⟨hHeld, (zr HO421), (zs HO424), (zk BK403), (zk BK404), (zk BK411), (zk BK426), GW426.out, GE426.out, NB0_426.out, NB426_0.out, NB403_426.out, NB426_403.out, NB404_426.out, NB426_404.out, NB411_426.out, NB426_411.out, (zi HI0), (zh HK), (zb HB)⟩)
      skip
      refine box_step ?hg (N := 7) ?hd (cs := #[.slice none 0 0, .slice none 0 0]) (t := 31) ?hr ?_; (case hd => rfl); (case hg => rfl); (case hr => first | (go_simp; done) | (go_simp; rfl))
      intro gb426 hg w25 hbox hb
      replace HB := am (below_step (zb HB) hb)
      have BK426 := am (hbox)
      have GW426 := am (zm hg (zh HK))
      have GE426 := am ((Nat.le_trans HW0.out (zm hg (zh HK))))
      replace HK := am (KeepBut.trans (zh HK) (KeepBut.of_below hb g none) (.inl rfl))
      have NB403_426 := am (zx hg (zk BK403))
      have NB426_403 := am (zy hg (zk BK403))
      replace BK403 := am (blk_below (zk BK403) hb)
      have NB404_426 := am (zx hg (zk BK404))
      have NB426_404 := am (zy hg (zk BK404))
      replace BK404 := am (blk_below (zk BK404) hb)
      have NB411_426 := am (zx hg (zk BK411))
      have NB426_411 := am (zy hg (zk BK411))
      replace BK411 := am (blk_below (zk BK411) hb)
      have NB0_426 := am (ix hg (zi HI0))
      have NB426_0 := am (iy hg (zi HI0))
      replace HI0 := am (IsS93.below (zi HI0) hb)
      clear hb hbox hg
      refine hK.out _ _ ⟨ce0 BK403, ce1 BK403, ce0 BK411, ce1 BK411, ce2 BK411, ce3 BK411, ce4 BK411⟩ (fun hHeld => ?_)
      clear hK K
      refine norm_ (a' := ?_) ?_ ?_
      rotate_left
      · show Act.put _ (some 7) _ = _
        simp only [Act.put, List.setIfInBounds_toArray, List.set_cons_zero, List.set_cons_succ, i64_w, i32_w]
        rfl
      refine oz 1 10 135 rfl rfl (fun K hK => ?_)
      refine gs Try.func82 #[.agg #[.slice A1_0 l1_0.length c1_0, .slice A1_1 l1_1.length c1_1]] rfl rfl ?_
      with_reducible refine (spec_l11Copy.calls k1 _ _ l1_0 _ _ l1_1 t413 t416 _ ?side1 ?side2 ?side3 ?side4 A21.out).mono ?_
      (case side1 => exact Kd.C_foot_now HR1_0.out (zh HK))
      (case side2 => exact HC1_0.out)
      (case side3 => exact Kd.C_foot_now HR1_1.out (zh HK))
      (case side4 => exact HC1_1.out)
      rintro e w26 ⟨v414, v417, rfl, ho0, ho1, hb⟩
      refine ⟨_, rfl, ?_⟩
      have HO415 := am (Kd.R_lower ho0 (keep_size (zh HK)))
      have HO418 := am (Kd.S_lower ho1 (keep_size (zh HK)))
      replace BK403 := am (blk_below (zk BK403) hb)
      replace BK404 := am (blk_below (zk BK404) hb)
      replace BK411 := am (blk_below (zk BK411) hb)
      replace HI0 := am (IsS93.below (zi HI0) hb)
      replace BK426 := am (blk_below (zk BK426) hb)
      replace HK := am (KeepBut.trans (zh HK) (KeepBut.of_below hb g none) (.inl rfl))
      replace HB := am (below_step (zb HB) hb)
      (try clear hb)
      (try clear hb2)
      (try clear hk)
      (try clear hi)
      (try clear ho0)
      (try clear ho1)
      obtain ⟨Ao27, co27, eo27⟩ := Kd.R_slice HO415.out
      (first | subst eo27 | (injection eo27 with f1_ f2_ f3_; have f4_ := f1_.symm; have f5_ := f3_.symm; clear f1_ f2_ f3_; subst f4_; subst f5_))
      obtain ⟨Ao28, co28, eo28⟩ := Kd.S_slice HO418.out
      (first | subst eo28 | (injection eo28 with f1_ f2_ f3_; have f4_ := f1_.symm; have f5_ := f3_.symm; clear f1_ f2_ f3_; subst f4_; subst f5_))
      refine hK.out _ _ ⟨ce0 BK403, ce1 BK403, ce0 BK411, ce1 BK411, ce2 BK411, ce3 BK411, ce4 BK411⟩ (fun hHeld => ?_)
      clear hK K
      refine norm_ (a' := ?_) ?_ ?_
      rotate_left
      · show Act.put _ (some 19) _ = _
        simp only [Act.put, List.setIfInBounds_toArray, List.set_cons_zero, List.set_cons_succ, i64_w, i32_w]
        rfl
      refine oz 3 10 143 rfl rfl (fun K hK => ?_)
      refine gs Try.func81 #[.agg #[.slice Ao27 t413.length co27, .slice Ao28 t416.length co28], .agg #[.int .i64 x412000_1, .string x412001_1, .string x412002_1, .int .i64 x412003_1, .string x412004_1]] rfl rfl ?_
      with_reducible refine (spec_l12Do.callsB k1 (fun k_ => some k_ = (.slice Ao27 t413.length co27 : Value).ownBlock) (.slice Ao27 t413.length co27) t413 (fun k_ => some k_ = (.slice Ao28 t416.length co28 : Value).ownBlock) (.slice Ao28 t416.length co28) t416 x412000_1 x412001_1 x412002_1 x412003_1 x412004_1 t419 t422 true w0 _ w.heap.size ?side1 HL.out ?sbw ?side2 ?side3 A22.out).mono ?_
      (case side1 => exact zb HB)
      (case side2 => exact Kd.R_tight rfl HO415.out)
      (case side3 => exact Kd.S_mono (HO418.out) (fun _ _ => trivial))
      (case sbw => exact keep_size (w := w) (g := g) (row := none) (zh HK))
      rintro e w29 ⟨v420, v423, rfl, ho0, ho1, hb, hkp⟩
      refine ⟨_, rfl, ?_⟩
      replace BK403 := am (blk_kept (zk BK403) hkp (fun hs_ => Or.elim hs_ (fun e_ => (fun e_ => (Kd.R_ne HO415.out BK403.out (by decide)) e_) e_) (fun e_ => (fun e_ => (Kd.S_ne HO418.out BK403.out (by decide)) e_) e_)))
      replace BK404 := am (blk_kept (zk BK404) hkp (fun hs_ => Or.elim hs_ (fun e_ => (fun e_ => (Kd.R_ne HO415.out BK404.out (by decide)) e_) e_) (fun e_ => (fun e_ => (Kd.S_ne HO418.out BK404.out (by decide)) e_) e_)))
      replace BK411 := am (blk_kept (zk BK411) hkp (fun hs_ => Or.elim hs_ (fun e_ => (fun e_ => (Kd.R_ne HO415.out BK411.out (by decide)) e_) e_) (fun e_ => (fun e_ => (Kd.S_ne HO418.out BK411.out (by decide)) e_) e_)))
      replace HI0 := am (IsS93.kept (zi HI0) hkp (fun hs_ => Or.elim hs_ (fun e_ => (fun e_ => (IsS93.own_ne HI0.out HO415.out (by decide)) e_) e_) (fun e_ => (fun e_ => (IsS93.own_neS HI0.out HO418.out (by decide)) e_) e_)))
      replace BK426 := am (blk_kept (zk BK426) hkp (fun hs_ => Or.elim hs_ (fun e_ => (fun e_ => (Kd.R_ne HO415.out BK426.out (by decide)) e_) e_) (fun e_ => (fun e_ => (Kd.S_ne HO418.out BK426.out (by decide)) e_) e_)))
      have HO421 := am (ho0)
      have HO424 := am (ho1)
      replace HK := am (Kept.keepG (zh HK) hkp (fun k_ hs_ => Or.elim hs_ (fun e_ => (fun e_ => .inr (Kd.R_base HO415.out k_ e_.symm)) e_) (fun e_ => (fun e_ => .inr (Kd.S_base HO418.out k_ e_.symm)) e_)))
      replace HB := am (hb)
      clear HO415 HO418
      (try clear hb)
      (try clear hkp)
      (try clear ho0)
      (try clear ho1)
      refine hK.out _ _ ⟨ce0 BK403, ce1 BK403, ce0 BK411, ce1 BK411, ce2 BK411, ce3 BK411, ce4 BK411⟩ (fun hHeld => ?_)
      clear hK K
      refine norm_ (a' := ?_) ?_ ?_
      rotate_left
      · show Act.put _ (some 21) _ = _
        simp only [Act.put, List.setIfInBounds_toArray, List.set_cons_zero, List.set_cons_succ, i64_w, i32_w]
        rfl
      refine pu 4 17 10 159 rfl rfl ?_
      refine pu 5 22 10 191 rfl rfl ?_
      refine pu 6 23 10 255 rfl rfl ?_
      exact norm_ (by simp only [putAll, Act.put, List.setIfInBounds_toArray, List.set_cons_zero, List.set_cons_succ]) (hCont (.slice Ao27 t413.length co27, .slice Ao28 t416.length co28, v420, v423, gb426) _ ⟨hHeld, (zr HO421), (zs HO424), (zk BK403), (zk BK404), (zk BK411), (zk BK426), GW426.out, GE426.out, NB0_426.out, NB426_0.out, NB403_426.out, NB426_403.out, NB404_426.out, NB426_404.out, NB411_426.out, NB426_411.out, (zi HI0), (zh HK), (zb HB)⟩)
    rintro ⟨v414, v417, v420, v423, gb426⟩ w30 ⟨hS_, h0_, h1_, h2_, h3_, h4_, h5_, h6_, h7_, h8_, h9_, h10_, h11_, h12_, h13_, h14_, h15_, h16_, h17_, h18_⟩
    have HO421 : Aside0 (Kd.R k55 55 w30 w.heap.size (fun _ => True) v420 t419) := ⟨h0_⟩
    have HO424 : Aside0 (Kd.S k38 38 w30 w.heap.size (fun _ => True) v423 t422) := ⟨h1_⟩
    replace BK403 : Aside0 (w30.heap[gb403]? = some (.cells #[.slice A1_0 l1_0.length c1_0, .slice A1_1 l1_1.length c1_1] 31 (0, 0))) := ⟨h2_⟩
    replace BK404 : Aside0 (w30.heap[gb404]? = some (.cells #[.int .i64 x405000_1, .string x405001_1, .string x405002_1, .int .i64 x405003_1, .string x405004_1] 103 (0, 0))) := ⟨h3_⟩
    replace BK411 : Aside0 (w30.heap[gb411]? = some (.cells #[.int .i64 x412000_1, .string x412001_1, .string x412002_1, .int .i64 x412003_1, .string x412004_1] 103 (0, 0))) := ⟨h4_⟩
    have BK426 : Aside0 (w30.heap[gb426]? = some (.cells #[.slice none 0 0, .slice none 0 0] 31 (0, 0))) := ⟨h5_⟩
    have GW426 : Aside0 (w.heap.size ≤ gb426) := ⟨h6_⟩
    have GE426 : Aside0 (w0.heap.size ≤ gb426) := ⟨h7_⟩
    have NB0_426 : Aside0 (g ≠ gb426) := ⟨h8_⟩
    have NB426_0 : Aside0 (gb426 ≠ g) := ⟨h9_⟩
    have NB403_426 : Aside0 (gb403 ≠ gb426) := ⟨h10_⟩
    have NB426_403 : Aside0 (gb426 ≠ gb403) := ⟨h11_⟩
    have NB404_426 : Aside0 (gb404 ≠ gb426) := ⟨h12_⟩
    have NB426_404 : Aside0 (gb426 ≠ gb404) := ⟨h13_⟩
    have NB411_426 : Aside0 (gb411 ≠ gb426) := ⟨h14_⟩
    have NB426_411 : Aside0 (gb426 ≠ gb411) := ⟨h15_⟩
    replace HI0 : Aside0 (IsS93 w0 w30 g s0_0 x1001_1) := ⟨h16_⟩
    replace HK : Aside0 (KeepBut w w30 g none) := ⟨h17_⟩
    replace HB : Aside0 (Below w0.heap.size w0 w30) := ⟨h18_⟩
    clear h0_ h1_ h2_ h3_ h4_ h5_ h6_ h7_ h8_ h9_ h10_ h11_ h12_ h13_ h14_ h15_ h16_ h17_ h18_
    have hHeld : w30.cell? ⟨gb403, 0, none⟩ = some (.slice A1_0 l1_0.length c1_0) ∧ w30.cell? ⟨gb403, 1, none⟩ = some (.slice A1_1 l1_1.length c1_1) ∧ w30.cell? ⟨gb411, 0, none⟩ = some (.int .i64 x412000_1) ∧ w30.cell? ⟨gb411, 1, none⟩ = some (.string x412001_1) ∧ w30.cell? ⟨gb411, 2, none⟩ = some (.string x412002_1) ∧ w30.cell? ⟨gb411, 3, none⟩ = some (.int .i64 x412003_1) ∧ w30.cell? ⟨gb411, 4, none⟩ = some (.string x412004_1) := hS_
    obtain ⟨Ao31, co31, eo31⟩ := Kd.R_slice HO421.out
    (first | subst eo31 | (injection eo31 with f1_ f2_ f3_; have f4_ := f1_.symm; have f5_ := f3_.symm; clear f1_ f2_ f3_; subst f4_; subst f5_))
    obtain ⟨Ao33, co33, eo33⟩ := Kd.S_slice HO424.out
    (first | subst eo33 | (injection eo33 with f1_ f2_ f3_; have f4_ := f1_.symm; have f5_ := f3_.symm; clear f1_ f2_ f3_; subst f4_; subst f5_))
    refine norm_ (a' := ?_) ?_ ?_
    rotate_left
    · simp only [putAll, Act.put, List.setIfInBounds_toArray, List.set_cons_zero, List.set_cons_succ]
      rfl
    refine oz 8 10 511 rfl rfl (fun K hK => ?_)
    have hs32 := ce0 BK426
    have hfs32 := bfz BK426 0
    have hns32_0 := NB403_426.out
    have hns32_1 := NB404_426.out
    have hns32_2 := NB411_426.out
    have hms32_0 := NB426_403.out
    have hms32_1 := NB426_404.out
    have hms32_2 := NB426_411.out
    have hs34 := ce1 BK426
    have hfs34 := bfz BK426 1
    have hns34_0 := NB403_426.out
    have hns34_1 := NB404_426.out
    have hns34_2 := NB411_426.out
    have hms34_0 := NB426_403.out
    have hms34_1 := NB426_404.out
    have hms34_2 := NB426_411.out
    refine skip_ (w1 := ?_) (by rfl) rfl ?_ ?_
    rotate_left
    · go_simp
      rfl
    refine hK.out _ _ ⟨((cell_far (p := ⟨gb426, _, none⟩) NB403_426.out _).trans (((cell_far (p := ⟨gb426, _, none⟩) NB403_426.out _).trans (hHeld.1)))), ((cell_far (p := ⟨gb426, _, none⟩) NB403_426.out _).trans (((cell_far (p := ⟨gb426, _, none⟩) NB403_426.out _).trans (hHeld.2.1)))), ((cell_far (p := ⟨gb426, _, none⟩) NB411_426.out _).trans (((cell_far (p := ⟨gb426, _, none⟩) NB411_426.out _).trans (hHeld.2.2.1)))), ((cell_far (p := ⟨gb426, _, none⟩) NB411_426.out _).trans (((cell_far (p := ⟨gb426, _, none⟩) NB411_426.out _).trans (hHeld.2.2.2.1)))), ((cell_far (p := ⟨gb426, _, none⟩) NB411_426.out _).trans (((cell_far (p := ⟨gb426, _, none⟩) NB411_426.out _).trans (hHeld.2.2.2.2.1)))), ((cell_far (p := ⟨gb426, _, none⟩) NB411_426.out _).trans (((cell_far (p := ⟨gb426, _, none⟩) NB411_426.out _).trans (hHeld.2.2.2.2.2.1)))), ((cell_far (p := ⟨gb426, _, none⟩) NB411_426.out _).trans (((cell_far (p := ⟨gb426, _, none⟩) NB411_426.out _).trans (hHeld.2.2.2.2.2.2))))⟩ (fun hHeld => ?_)
    clear hK K
    refine pu 9 8 10 1023 rfl rfl ?_
    refine done_ (done_of HT_.out (by kernel_rfl)) ?_
    have hnb35 := NB411_403.out
    have hnc35 := NB403_411.out
    have hnb36 := NB411_404.out
    have hnc36 := NB404_411.out
    have hnb37 := NB411_426.out
    have hnc37 := NB426_411.out
    have hnb38 := NB411_0.out
    have hnc38 := NB0_411.out
    have hcz39_0 := ce0 BK411
    have hcz39_1 := ce1 BK411
    have hcz39_2 := ce2 BK411
    have hcz39_3 := ce3 BK411
    have hcz39_4 := ce4 BK411
    have hfz39_0 := bfz BK411 0
    have hfz39_1 := bfz BK411 1
    have hfz39_2 := bfz BK411 2
    have hfz39_3 := bfz BK411 3
    have hfz39_4 := bfz BK411 4
    have hnb40 := NB404_403.out
    have hnc40 := NB403_404.out
    have hnb41 := NB404_426.out
    have hnc41 := NB426_404.out
    have hnb42 := NB404_0.out
    have hnc42 := NB0_404.out
    have hcz43_0 := ce0 BK404
    have hcz43_1 := ce1 BK404
    have hcz43_2 := ce2 BK404
    have hcz43_3 := ce3 BK404
    have hcz43_4 := ce4 BK404
    have hfz43_0 := bfz BK404 0
    have hfz43_1 := bfz BK404 1
    have hfz43_2 := bfz BK404 2
    have hfz43_3 := bfz BK404 3
    have hfz43_4 := bfz BK404 4
    try go_wp2
    refine bodyPost_ret (results_cell_row rfl _ _ gb404 103 #[.int .i64 x412000_1, .string x412001_1, .string x412002_1, .int .i64 x412003_1, .string x412004_1] (0, 0) _ rfl (zp BK404) Try.underlying103 rfl (by kernel_rfl)) rfl ?_
    exact ⟨zv, (zi HI0), (zb HB), (zh HK)⟩
   clear HC14
   try clear c1
   try clear c2
   try clear p2
   try clear c8
   try clear c20
   obtain ⟨kq, x405000_13, x405001_13, x405002_13, x405003_13, x405004_13, HA, HJ13, BK403, BK404, BK411, HI0, HK, HB⟩ := hcut
   cases kq with
   | zero => exact absurd HA.out (by simp [spec_l71Fits.j1])
   | succ kj13 =>
    have H := HA.out
    clear HA
    simp only [spec_l71Fits.j1] at H
    replace H := obs H
    obtain ⟨⟨t427, t428, t429, t430, t431, t432⟩, A550, H⟩ := H
    replace H : (if (l1_1.length : Int) > 0 then ((spec_l6Rd_pick.f kj13 s0_0 t432 3).bind fun bt433 => (if bt433.1 > 0 then ((spec_l6Rd_pick.f kj13 s0_0 bt433.2 (l1_1.length : Int)).bind fun bt435 => (if 0 ≤ bt435.1 then (if bt435.1 < (l1_1.length : Int) then (spec_l71Fits.l0 kj13 (wrap64 (x6_1 + 1)) s0_0 bt435.2 l1_0 l1_1 t427 ((rd_T38 l1_1 bt435.1).f0) t429 t430 t431) else (none)) else (none))) else (spec_l71Fits.l0 kj13 (wrap64 (x6_1 + 1)) s0_0 bt433.2 l1_0 l1_1 t427 t428 t429 t430 t431))) else (spec_l71Fits.l0 kj13 (wrap64 (x6_1 + 1)) s0_0 t432 l1_0 l1_1 t427 t428 t429 t430 t431)) = some (r1, r2, r3, r4, r5, r6) := H
    have A55 := am A550
    clear A550
    by_cases c56 : (l1_1.length : Int) > 0
    rotate_left
    · rw [if_neg c56] at H
      have c56b0 : decide (0 < (l1_1.length : Int)) = false := decide_eq_false c56
      have c56b1 : decide (0 < l1_1.length) = false := decide_eq_false (by omega)
      clear c56
      have H' := am H
      clear H
      go_wp2_with (first | ((with_reducible refine gate_callee (f := 87) rfl ?_); refine gl Try.func87 27 #[.pointer (some ⟨g, 0, none⟩)] rfl rfl rfl ?_; (with_reducible refine (spec_l71Op.calls kj13 g s0_0 x1001_1 t427 t428 t429 t430 t431 t432 w0 _ ?side1 ?side2 A55.out).mono ?_); (case side1 => exact zi HI0); (case side2 => exact zb HB); rintro e w83 ⟨rfl, hi, hb, hk⟩; refine ⟨_, rfl, ?_⟩; replace BK403 := am (KeepBut.blk hk (zk BK403) NB403_0.out (by simp)); replace BK404 := am (KeepBut.blk hk (zk BK404) NB404_0.out (by simp)); replace BK411 := am (KeepBut.blk hk (zk BK411) NB411_0.out (by simp)); replace HK := am (KeepBut.trans (zh HK) hk (.inl rfl)); replace HB := am (hb); replace HI0 := am (hi); (try clear hb); (try clear hb2); (try clear hk); (try clear hi); have hnb84 := NB411_403.out; have hnc84 := NB403_411.out; have hnb85 := NB411_404.out; have hnc85 := NB404_411.out; have hnb86 := NB411_0.out; have hnc86 := NB0_411.out; have hcz87_0 := ce0 BK411; have hcz87_1 := ce1 BK411; have hcz87_2 := ce2 BK411; have hcz87_3 := ce3 BK411; have hcz87_4 := ce4 BK411; have hfz87_0 := bfz BK411 0; have hfz87_1 := bfz BK411 1; have hfz87_2 := bfz BK411 2; have hfz87_3 := bfz BK411 3; have hfz87_4 := bfz BK411 4; have hnb88 := NB403_404.out; have hnc88 := NB404_403.out; have hnb89 := NB403_0.out; have hnc89 := NB0_403.out; have hcz90_0 := ce0 BK403; have hcz90_1 := ce1 BK403; have hfz90_0 := bfz BK403 0; have hfz90_1 := bfz BK403 1))
      go_roundg kj13
      case measure => have := HK1.out; have := HJ13.out; omega
      case rel => exact ⟨(wrap64 (x6_1 + 1)), (t432), (x405000_13), (x405001_13), (x405002_13), (x405003_13), (x405004_13), (t427), (t428), (t429), (t430), (t431), ze, H', ⟨by have := HK1.out; have := HJ13.out; omega⟩, ⟨zk BK403⟩, ⟨zk BK404⟩, ⟨zp BK411⟩, ⟨zi HI0⟩, ⟨zh HK⟩, ⟨zb HB⟩⟩
    rw [if_pos c56] at H
    have c56b0 : decide (0 < (l1_1.length : Int)) = true := decide_eq_true c56
    have c56b1 : decide (0 < l1_1.length) = true := decide_eq_true (by omega)
    clear c56
    replace H := obs H
    obtain ⟨⟨t433, t434⟩, A570, H⟩ := H
    replace H : (if t433 > 0 then ((spec_l6Rd_pick.f kj13 s0_0 t434 (l1_1.length : Int)).bind fun bt435 => (if 0 ≤ bt435.1 then (if bt435.1 < (l1_1.length : Int) then (spec_l71Fits.l0 kj13 (wrap64 (x6_1 + 1)) s0_0 bt435.2 l1_0 l1_1 t427 ((rd_T38 l1_1 bt435.1).f0) t429 t430 t431) else (none)) else (none))) else (spec_l71Fits.l0 kj13 (wrap64 (x6_1 + 1)) s0_0 t434 l1_0 l1_1 t427 t428 t429 t430 t431)) = some (r1, r2, r3, r4, r5, r6) := H
    have A57 := am A570
    clear A570
    by_cases c58 : t433 > 0
    rotate_left
    · rw [if_neg c58] at H
      have c58b0 : decide (0 < t433) = false := decide_eq_false c58
      clear c58
      have H' := am H
      clear H
      go_wp2_with (first | ((with_reducible refine gate_callee (f := 87) rfl ?_); refine gl Try.func87 27 #[.pointer (some ⟨g, 0, none⟩)] rfl rfl rfl ?_; (with_reducible refine (spec_l71Op.calls kj13 g s0_0 x1001_1 t427 t428 t429 t430 t431 t432 w0 _ ?side1 ?side2 A55.out).mono ?_); (case side1 => exact zi HI0); (case side2 => exact zb HB); rintro e w74 ⟨rfl, hi, hb, hk⟩; refine ⟨_, rfl, ?_⟩; replace BK403 := am (KeepBut.blk hk (zk BK403) NB403_0.out (by simp)); replace BK404 := am (KeepBut.blk hk (zk BK404) NB404_0.out (by simp)); replace BK411 := am (KeepBut.blk hk (zk BK411) NB411_0.out (by simp)); replace HK := am (KeepBut.trans (zh HK) hk (.inl rfl)); replace HB := am (hb); replace HI0 := am (hi); (try clear hb); (try clear hb2); (try clear hk); (try clear hi); have hnb75 := NB411_403.out; have hnc75 := NB403_411.out; have hnb76 := NB411_404.out; have hnc76 := NB404_411.out; have hnb77 := NB411_0.out; have hnc77 := NB0_411.out; have hcz78_0 := ce0 BK411; have hcz78_1 := ce1 BK411; have hcz78_2 := ce2 BK411; have hcz78_3 := ce3 BK411; have hcz78_4 := ce4 BK411; have hfz78_0 := bfz BK411 0; have hfz78_1 := bfz BK411 1; have hfz78_2 := bfz BK411 2; have hfz78_3 := bfz BK411 3; have hfz78_4 := bfz BK411 4; have hnb79 := NB403_404.out; have hnc79 := NB404_403.out; have hnb80 := NB403_0.out; have hnc80 := NB0_403.out; have hcz81_0 := ce0 BK403; have hcz81_1 := ce1 BK403; have hfz81_0 := bfz BK403 0; have hfz81_1 := bfz BK403 1) | (go_at_call 51; (with_reducible refine (spec_l6Rd_pick.calls kj13 g s0_0 t432 3 t433 t434 w0 _ ?side1 ?side2 A57.out).mono ?_); (case side1 => exact zi HI0); (case side2 => exact zb HB); rintro e w82 ⟨rfl, hi, hb, hk⟩; replace BK403 := am (KeepBut.blk hk (zk BK403) NB403_0.out (by simp)); replace BK404 := am (KeepBut.blk hk (zk BK404) NB404_0.out (by simp)); replace BK411 := am (KeepBut.blk hk (g' := gb411) (o := .cells #[.int .i64 t427, .string t428, .string t429, .int .i64 t430, .string t431] 103 (0, 0)) (zp BK411) NB411_0.out (by simp)); replace HK := am (KeepBut.trans (zh HK) hk (.inl rfl)); replace HB := am (hb); replace HI0 := am (hi); (try clear hb); (try clear hb2); (try clear hk); (try clear hi)))
      go_roundg kj13
      case measure => have := HK1.out; have := HJ13.out; omega
      case rel => exact ⟨(wrap64 (x6_1 + 1)), (t434), (x405000_13), (x405001_13), (x405002_13), (x405003_13), (x405004_13), (t427), (t428), (t429), (t430), (t431), ze, H', ⟨by have := HK1.out; have := HJ13.out; omega⟩, ⟨zk BK403⟩, ⟨zk BK404⟩, ⟨zk BK411⟩, ⟨zi HI0⟩, ⟨zh HK⟩, ⟨zb HB⟩⟩
    rw [if_pos c58] at H
    have c58b0 : decide (0 < t433) = true := decide_eq_true c58
    clear c58
    replace H := obs H
    obtain ⟨⟨t435, t436⟩, A590, H⟩ := H
    replace H : (if 0 ≤ t435 then (if t435 < (l1_1.length : Int) then (spec_l71Fits.l0 kj13 (wrap64 (x6_1 + 1)) s0_0 t436 l1_0 l1_1 t427 ((rd_T38 l1_1 t435).f0) t429 t430 t431) else (none)) else (none)) = some (r1, r2, r3, r4, r5, r6) := H
    have A59 := am A590
    clear A590
    by_cases c60 : 0 ≤ t435
    rotate_left
    · rw [if_neg c60] at H
      exact absurd H (by simp)
    rw [if_pos c60] at H
    have c60b0 : decide (0 ≤ t435) = true := decide_eq_true c60
    clear c60
    by_cases c61 : t435 < (l1_1.length : Int)
    rotate_left
    · rw [if_neg c61] at H
      exact absurd H (by simp)
    rw [if_pos c61] at H
    have c61b0 : decide (t435 < (l1_1.length : Int)) = true := decide_eq_true c61
    clear c61
    have H' := am H
    clear H
    try go_wp2_with (first | ((with_reducible refine gate_callee (f := 87) rfl ?_); refine gl Try.func87 27 #[.pointer (some ⟨g, 0, none⟩)] rfl rfl rfl ?_; (with_reducible refine (spec_l71Op.calls kj13 g s0_0 x1001_1 t427 t428 t429 t430 t431 t432 w0 _ ?side1 ?side2 A55.out).mono ?_); (case side1 => exact zi HI0); (case side2 => exact zb HB); rintro e w62 ⟨rfl, hi, hb, hk⟩; refine ⟨_, rfl, ?_⟩; replace BK403 := am (KeepBut.blk hk (zk BK403) NB403_0.out (by simp)); replace BK404 := am (KeepBut.blk hk (zk BK404) NB404_0.out (by simp)); replace BK411 := am (KeepBut.blk hk (zk BK411) NB411_0.out (by simp)); replace HK := am (KeepBut.trans (zh HK) hk (.inl rfl)); replace HB := am (hb); replace HI0 := am (hi); (try clear hb); (try clear hb2); (try clear hk); (try clear hi); have hnb63 := NB411_403.out; have hnc63 := NB403_411.out; have hnb64 := NB411_404.out; have hnc64 := NB404_411.out; have hnb65 := NB411_0.out; have hnc65 := NB0_411.out; have hcz66_0 := ce0 BK411; have hcz66_1 := ce1 BK411; have hcz66_2 := ce2 BK411; have hcz66_3 := ce3 BK411; have hcz66_4 := ce4 BK411; have hfz66_0 := bfz BK411 0; have hfz66_1 := bfz BK411 1; have hfz66_2 := bfz BK411 2; have hfz66_3 := bfz BK411 3; have hfz66_4 := bfz BK411 4; have hnb67 := NB403_404.out; have hnc67 := NB404_403.out; have hnb68 := NB403_0.out; have hnc68 := NB0_403.out; have hcz69_0 := ce0 BK403; have hcz69_1 := ce1 BK403; have hfz69_0 := bfz BK403 0; have hfz69_1 := bfz BK403 1) | (go_at_call 51; (with_reducible refine (spec_l6Rd_pick.calls kj13 g s0_0 t432 3 t433 t434 w0 _ ?side1 ?side2 A57.out).mono ?_); (case side1 => exact zi HI0); (case side2 => exact zb HB); rintro e w70 ⟨rfl, hi, hb, hk⟩; replace BK403 := am (KeepBut.blk hk (zk BK403) NB403_0.out (by simp)); replace BK404 := am (KeepBut.blk hk (zk BK404) NB404_0.out (by simp)); replace BK411 := am (KeepBut.blk hk (g' := gb411) (o := .cells #[.int .i64 t427, .string t428, .string t429, .int .i64 t430, .string t431] 103 (0, 0)) (zp BK411) NB411_0.out (by simp)); replace HK := am (KeepBut.trans (zh HK) hk (.inl rfl)); replace HB := am (hb); replace HI0 := am (hi); (try clear hb); (try clear hb2); (try clear hk); (try clear hi)))
    replace BK403 := am (blk_drew BK403.out)
    replace BK404 := am (blk_drew BK404.out)
    replace BK411 := am (blk_drew BK411.out)
    replace HI0 := am (IsS93.drew HI0.out)
    replace HK := am (keep_drew HK.out)
    replace HB := am (below_drew1 HB.out)
    have p437 : 0 ≤ (t435 : Int) := of_decide_eq_true zl
    have q437 : t435 < (l1_1.length : Int) := of_decide_eq_true zl
    obtain ⟨ad437, A437_1, c437_1, e437, hx437_0, hx437_1, hl437_1, hi437_1⟩ := at_T38 (Kd.C_foot_now HR1_1.out HK.out) t435 p437 q437
    have hw437_1 := hx437_1
    have hw437_0 := hx437_0
    cases e437
    have hne437_1 := (show (⟨(ad437.add ((t435).toNat * 2)).block, (ad437.add ((t435).toNat * 2)).off + 1, none⟩ : Addr).block ≠ g from by first | (rw [add_block]; exact Kd.foot_ne HR1_1.out (by omega) (by decide)) | (show (Addr.add _ _).block ≠ _; rw [add_block]; exact Kd.foot_ne HR1_1.out (by omega) (by decide)) | exact Kd.foot_ne HR1_1.out (by omega) (by decide) | (dsimp only; exact Kd.foot_ne HR1_1.out (by omega) (by decide)))
    have hlt437_1 := (Kd.foot_lt HR1_1.out (by omega) (by decide))
    have hne437_0 := (show ((ad437.add ((t435).toNat * 2)) : Addr).block ≠ g from by first | (rw [add_block]; exact Kd.foot_ne HR1_1.out (by omega) (by decide)) | (show (Addr.add _ _).block ≠ _; rw [add_block]; exact Kd.foot_ne HR1_1.out (by omega) (by decide)) | exact Kd.foot_ne HR1_1.out (by omega) (by decide) | (dsimp only; exact Kd.foot_ne HR1_1.out (by omega) (by decide)))
    have hlt437_0 := (Kd.foot_lt HR1_1.out (by omega) (by decide))
    have HR437_1 := am hi437_1
    have HC437_1 := am hl437_1
    clear hi437_1 hl437_1
    replace p437 := eq_true p437
    replace q437 := eq_true q437
    refine start_ (n := 12) (S := fun w' => w'.cell? ⟨gb403, 0, none⟩ = some (.slice A1_0 l1_0.length c1_0) ∧ w'.cell? ⟨gb403, 1, none⟩ = some (.slice (some ad437) l1_1.length c1_1) ∧ w'.cell? (ad437.add ((t435).toNat * 2)) = some (.string ((rd_T38 l1_1 t435).f0)) ∧ w'.cell? ⟨(ad437.add ((t435).toNat * 2)).block, (ad437.add ((t435).toNat * 2)).off + 1, none⟩ = some (.slice A437_1 ((rd_T38 l1_1 t435).f1).length c437_1)) (ds := []) (bs 12 0) (by kernel_rfl) rfl rfl ⟨ce0 BK403, ce1 BK403, hx437_0, hx437_1⟩ (fun hHeld => ?_); refine with_tabW spec_l71Fits.tab11 spec_l71Fits.bits11 (fun HT_ HW_ => ?_)
    generalize w70.drew = w71 at BK403 BK404 BK411 HI0 HK HB HR437_1 hx437_0 hx437_1 hHeld ⊢
    refine pu 0 37 12 1 rfl rfl ?_
    refine pu 2 39 12 5 rfl rfl ?_
    refine pu 3 40 12 13 rfl rfl ?_
    refine ta4 1 38 12 15 rfl rfl hHeld ?_
    refine ta4 4 41 12 31 rfl rfl hHeld ?_
    refine pu 5 42 12 63 rfl rfl ?_
    refine oz 6 12 127 rfl rfl (fun K hK => ?_)
    refine gs Try.func51 #[.pointer (some ⟨g, 0, none⟩), .int .i64 (l1_1.length : Int)] rfl rfl ?_
    with_reducible refine (spec_l6Rd_pick.calls kj13 g s0_0 t434 (l1_1.length : Int) t435 t436 w0 _ ?side1 ?side2 A59.out).mono ?_
    (case side1 => exact zi HI0)
    (case side2 => exact zb HB)
    rintro e w72 ⟨rfl, hi, hb, hk⟩
    have HS2_ := keep_cell hk (hHeld.2.2.1) (by first | (rw [add_block]; exact hne437_0) | (show (Addr.add _ _).block ≠ _; rw [add_block]; exact hne437_0) | exact hne437_0)
    have HS3_ := keep_cell hk (hHeld.2.2.2) (by first | (rw [add_block]; exact hne437_1) | (show (Addr.add _ _).block ≠ _; rw [add_block]; exact hne437_1) | exact hne437_1)
    refine ⟨_, rfl, ?_⟩
    replace BK403 := am (KeepBut.blk hk (zk BK403) NB403_0.out (by simp))
    replace BK404 := am (KeepBut.blk hk (zk BK404) NB404_0.out (by simp))
    replace BK411 := am (KeepBut.blk hk (zk BK411) NB411_0.out (by simp))
    replace HK := am (KeepBut.trans (zh HK) hk (.inl rfl))
    replace HB := am (hb)
    replace HI0 := am (hi)
    (try clear hb)
    (try clear hb2)
    (try clear hk)
    (try clear hi)
    refine hK.out _ _ ⟨ce0 BK403, ce1 BK403, HS2_, HS3_⟩ (fun hHeld => ?_)
    clear hK K
    refine norm_ (a' := ?_) ?_ ?_
    rotate_left
    · show Act.put _ (some 43) _ = _
      simp only [Act.put, List.setIfInBounds_toArray, List.set_cons_zero, List.set_cons_succ, i64_w, i32_w]
      rfl
    refine pu 7 44 12 255 rfl rfl ?_
    refine pu 8 45 12 511 rfl rfl ?_
    refine ta4 9 46 12 1023 rfl rfl hHeld ?_
    refine pu 10 47 12 2047 rfl rfl ?_
    refine oz 11 12 4095 rfl rfl (fun K hK => ?_)
    have hs73 := ce1 BK411
    have hfs73 := bfz BK411 1
    have hns73_0 := NB403_411.out
    have hns73_1 := NB404_411.out
    have hms73_0 := NB411_403.out
    have hms73_1 := NB411_404.out
    refine skip_ (w1 := ?_) (by rfl) rfl ?_ ?_
    rotate_left
    · go_simp
      rfl
    refine hK.out _ _ ⟨((cell_far (p := ⟨gb411, _, none⟩) NB403_411.out _).trans (hHeld.1)), ((cell_far (p := ⟨gb411, _, none⟩) NB403_411.out _).trans (hHeld.2.1)), ((cell_far (p := ⟨gb411, _, none⟩) (by first | exact Nat.ne_of_lt (Nat.lt_of_lt_of_le hlt437_0 GW411.out) | (rw [add_block]; exact Nat.ne_of_lt (Nat.lt_of_lt_of_le hlt437_0 GW411.out)) | (show (Addr.add _ _).block ≠ _; rw [add_block]; exact Nat.ne_of_lt (Nat.lt_of_lt_of_le hlt437_0 GW411.out)) | (dsimp only; exact Nat.ne_of_lt (Nat.lt_of_lt_of_le hlt437_0 GW411.out))) _).trans (hHeld.2.2.1)), ((cell_far (p := ⟨gb411, _, none⟩) (by first | exact Nat.ne_of_lt (Nat.lt_of_lt_of_le hlt437_1 GW411.out) | (rw [add_block]; exact Nat.ne_of_lt (Nat.lt_of_lt_of_le hlt437_1 GW411.out)) | (show (Addr.add _ _).block ≠ _; rw [add_block]; exact Nat.ne_of_lt (Nat.lt_of_lt_of_le hlt437_1 GW411.out)) | (dsimp only; exact Nat.ne_of_lt (Nat.lt_of_lt_of_le hlt437_1 GW411.out))) _).trans (hHeld.2.2.2))⟩ (fun hHeld => ?_)
    clear hK K
    refine done_ (done_of HT_.out (by kernel_rfl)) ?_
    try go_wp2
    go_roundg kj13
    case measure => have := HK1.out; have := HJ13.out; omega
    case rel => exact ⟨(wrap64 (x6_1 + 1)), (t436), (x405000_13), (x405001_13), (x405002_13), (x405003_13), (x405004_13), (t427), ((rd_T38 l1_1 t435).f0), (t429), (t430), (t431), ze, H', ⟨by have := HK1.out; have := HJ13.out; omega⟩, ⟨zk BK403⟩, ⟨zk BK404⟩, ⟨zp BK411⟩, ⟨zi HI0⟩, ⟨zh HK⟩, ⟨zb HB⟩⟩
end Go.Proofs.Ytooamacekmjpaaa.PFnPoolText
