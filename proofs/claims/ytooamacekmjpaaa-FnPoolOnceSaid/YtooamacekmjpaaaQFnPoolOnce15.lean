/- The walk: each function that the law comes to as a plain Lean function, and a proof that the Go code answers so. Written by this session's program over the kit's printer. -/
import Derived.Test.YtooamacekmjpaaaZ
import Derived.Test.YtooamacekmjpaaaQFnPoolOnce0
import Derived.Test.YtooamacekmjpaaaQFnPoolOnce7
import Derived.Test.YtooamacekmjpaaaQFnPoolOnce14
namespace Go.Proofs.Ytooamacekmjpaaa.PFnPoolOnce
open Go.RowKit Go.Proofs.YtooamacekmjpaaaW.PrintWords Go.Proofs.YtooamacekmjpaaaW.PrintLast Go.Proofs.YtooamacekmjpaaaW.PrintMore
attribute [local go_sem] max2_int min2_int max_two min_two max_three min_three max_four min_four   -- for this text's walks alone
set_option linter.unusedVariables false
set_option linter.unusedSimpArgs false
/-! ### spec_l71Pool: function 50 -/
def spec_l71Pool.f (k : Nat) (s0_0 : List Int) (s0_1 : Int) : Option ((List (S55)) × (List (S38)) × Int) := (spec_l6Rd_pick.f k s0_0 s0_1 22).bind fun bt452 => ((spec_l71Ops.f k s0_0 bt452.2 (wrap64 (3 + bt452.1))).bind fun bt454 => ((spec_l6Rd_pick.f k s0_0 bt454.2.2.2 30).bind fun bt465 => (if bt465.1 = 0 then ((spec_l6Rd_pick.f k s0_0 bt465.2 (bt454.2.1.length : Int)).bind fun bt467 => ((spec_l6Rd_pick.f k s0_0 bt467.2 4).bind fun bt469 => (if 0 ≤ bt467.1 then (if bt467.1 < (bt454.2.1.length : Int) then (some ((bt454.2.1.set (bt467.1 : Int).toNat (⟨(rd_T55 bt454.2.1 bt467.1).f0, bt469.1⟩ : S55)), bt454.2.2.1, bt469.2)) else (none)) else (none)))) else (if bt465.1 = 1 then (if (bt454.2.2.1.length : Int) > 0 then ((spec_l6Rd_pick.f k s0_0 bt465.2 (bt454.2.2.1.length : Int)).bind fun bt472 => (if 0 ≤ bt472.1 then (if bt472.1 < (bt454.2.2.1.length : Int) then ((spec_l6Rd_pick.f k s0_0 bt472.2 10).bind fun bt475 => (if 0 < (((rd_T38 bt454.2.2.1 bt472.1).f1).length : Int) then (some (bt454.2.1, (bt454.2.2.1.set (bt472.1 : Int).toNat (⟨(rd_T38 bt454.2.2.1 bt472.1).f0, (((rd_T38 bt454.2.2.1 bt472.1).f1).set (0 : Int).toNat bt475.1)⟩ : S38)), bt475.2)) else (none))) else (none)) else (none))) else (some (bt454.2.1, bt454.2.2.1, bt465.2))) else (if bt465.1 = 2 then (if bt454.2.2.1.length < 3518437208883 then (some (bt454.2.1, (bt454.2.2.1 ++ [(⟨(⟨#[65]⟩ : ByteArray), (([0] : List Int))⟩ : S38)]), bt465.2)) else (none)) else (some (bt454.2.1, bt454.2.2.1, bt465.2)))))))
theorem spec_l71Pool.mono : ∀ a0 a1 k, LeO (spec_l71Pool.f k a0 a1) (spec_l71Pool.f (k + 1) a0 a1) := by
 intro a0 a1 k
 unfold spec_l71Pool.f
 exact mo2 @spec_l6Rd_pick.mono @spec_l71Ops.mono
def spec_l71Pool.T4 : Bool × List (List Nat × List Nat) := (true, [([], []), ([0], [0]), ([], []), ([], []), ([3], [3]), ([4], [4]), ([2, 5], [2, 5]), ([], []), ([7, 6], [7]), ([1, 6, 0, 1, 2, 3, 4, 5, 6, 7, 8], [1, 6]), ([9, 0, 1, 2, 3, 4, 5, 6, 7, 8], [9]), ([10, 8, 8, 0, 1, 2, 3, 4, 5, 6, 7, 8], [8, 10])])
def spec_l71Pool.B4 : List Nat := [0, 1, 0, 0, 8, 24, 60, 0, 252, 511, 1023, 2047]
theorem spec_l71Pool.tab4 : rtab .any (opsOf Try.f50 4) = spec_l71Pool.T4 := by kernel_rfl
theorem spec_l71Pool.bits4 : waitsOk spec_l71Pool.T4.2 spec_l71Pool.B4 = true := by kernel_rfl
def spec_l71Pool.T8 : Bool × List (List Nat × List Nat) := (true, [([], []), ([0], [0]), ([], []), ([1, 2], [1, 2]), ([3], [3]), ([4], [4]), ([], []), ([6], [6]), ([5, 0, 1, 2, 3, 4, 5, 6, 7], [5]), ([8, 7, 7, 0, 1, 2, 3, 4, 5, 6, 7], [7, 8])])
def spec_l71Pool.B8 : List Nat := [0, 1, 0, 7, 15, 31, 0, 64, 255, 511]
theorem spec_l71Pool.tab8 : rtab .any (opsOf Try.f50 8) = spec_l71Pool.T8 := by kernel_rfl
theorem spec_l71Pool.bits8 : waitsOk spec_l71Pool.T8.2 spec_l71Pool.B8 = true := by kernel_rfl
set_option maxHeartbeats 8000000 in
set_option maxRecDepth 100000 in
theorem spec_l71Pool.calls (k : Nat) (g : Nat) (s0_0 : List Int) (s0_1 : Int) (r1 : List (S55)) (r2 : List (S38)) (r3 : Int) (w0 w : World) (hI : IsS93 w0 w g s0_0 s0_1) (hB : Below w0.heap.size w0 w) (h : spec_l71Pool.f k s0_0 s0_1 = some (r1, r2, r3)) :
 Calls Try.prog 50 #[.pointer (some ⟨g, 0, none⟩)] w fun e w' => ∃ v0_ v1_ : Value, e = .returned (.agg #[v0_, v1_]) ∧ Kd.R k55 55 w' w.heap.size (fun _ => True) v0_ r1 ∧ Kd.S k38 38 w' w.heap.size (fun _ => True) v1_ r2 ∧ IsS93 w0 w' g s0_0 r3 ∧ Below w0.heap.size w0 w' ∧ KeepBut w w' g none := by
 have hu31 := Try.underlying31
 have hu38 := Try.underlying38
 have HI0 := am hI
 have HK := am (KeepBut.refl w g none)
 have HL := am hB.size
 clear hI
 have HW0 := am hB.size
 have HB := am hB
 clear hB
 have H : ((spec_l6Rd_pick.f k s0_0 s0_1 22).bind fun bt452 => ((spec_l71Ops.f k s0_0 bt452.2 (wrap64 (3 + bt452.1))).bind fun bt454 => ((spec_l6Rd_pick.f k s0_0 bt454.2.2.2 30).bind fun bt465 => (if bt465.1 = 0 then ((spec_l6Rd_pick.f k s0_0 bt465.2 (bt454.2.1.length : Int)).bind fun bt467 => ((spec_l6Rd_pick.f k s0_0 bt467.2 4).bind fun bt469 => (if 0 ≤ bt467.1 then (if bt467.1 < (bt454.2.1.length : Int) then (some ((bt454.2.1.set (bt467.1 : Int).toNat (⟨(rd_T55 bt454.2.1 bt467.1).f0, bt469.1⟩ : S55)), bt454.2.2.1, bt469.2)) else (none)) else (none)))) else (if bt465.1 = 1 then (if (bt454.2.2.1.length : Int) > 0 then ((spec_l6Rd_pick.f k s0_0 bt465.2 (bt454.2.2.1.length : Int)).bind fun bt472 => (if 0 ≤ bt472.1 then (if bt472.1 < (bt454.2.2.1.length : Int) then ((spec_l6Rd_pick.f k s0_0 bt472.2 10).bind fun bt475 => (if 0 < (((rd_T38 bt454.2.2.1 bt472.1).f1).length : Int) then (some (bt454.2.1, (bt454.2.2.1.set (bt472.1 : Int).toNat (⟨(rd_T38 bt454.2.2.1 bt472.1).f0, (((rd_T38 bt454.2.2.1 bt472.1).f1).set (0 : Int).toNat bt475.1)⟩ : S38)), bt475.2)) else (none))) else (none)) else (none))) else (some (bt454.2.1, bt454.2.2.1, bt465.2))) else (if bt465.1 = 2 then (if bt454.2.2.1.length < 3518437208883 then (some (bt454.2.1, (bt454.2.2.1 ++ [(⟨(⟨#[65]⟩ : ByteArray), (([0] : List Int))⟩ : S38)]), bt465.2)) else (none)) else (some (bt454.2.1, bt454.2.2.1, bt465.2)))))))) = some (r1, r2, r3) := h
 clear h
 replace H := obs H
 obtain ⟨⟨t452, t453⟩, A20, H⟩ := H
 replace H : ((spec_l71Ops.f k s0_0 t453 (wrap64 (3 + t452))).bind fun bt454 => ((spec_l6Rd_pick.f k s0_0 bt454.2.2.2 30).bind fun bt465 => (if bt465.1 = 0 then ((spec_l6Rd_pick.f k s0_0 bt465.2 (bt454.2.1.length : Int)).bind fun bt467 => ((spec_l6Rd_pick.f k s0_0 bt467.2 4).bind fun bt469 => (if 0 ≤ bt467.1 then (if bt467.1 < (bt454.2.1.length : Int) then (some ((bt454.2.1.set (bt467.1 : Int).toNat (⟨(rd_T55 bt454.2.1 bt467.1).f0, bt469.1⟩ : S55)), bt454.2.2.1, bt469.2)) else (none)) else (none)))) else (if bt465.1 = 1 then (if (bt454.2.2.1.length : Int) > 0 then ((spec_l6Rd_pick.f k s0_0 bt465.2 (bt454.2.2.1.length : Int)).bind fun bt472 => (if 0 ≤ bt472.1 then (if bt472.1 < (bt454.2.2.1.length : Int) then ((spec_l6Rd_pick.f k s0_0 bt472.2 10).bind fun bt475 => (if 0 < (((rd_T38 bt454.2.2.1 bt472.1).f1).length : Int) then (some (bt454.2.1, (bt454.2.2.1.set (bt472.1 : Int).toNat (⟨(rd_T38 bt454.2.2.1 bt472.1).f0, (((rd_T38 bt454.2.2.1 bt472.1).f1).set (0 : Int).toNat bt475.1)⟩ : S38)), bt475.2)) else (none))) else (none)) else (none))) else (some (bt454.2.1, bt454.2.2.1, bt465.2))) else (if bt465.1 = 2 then (if bt454.2.2.1.length < 3518437208883 then (some (bt454.2.1, (bt454.2.2.1 ++ [(⟨(⟨#[65]⟩ : ByteArray), (([0] : List Int))⟩ : S38)]), bt465.2)) else (none)) else (some (bt454.2.1, bt454.2.2.1, bt465.2))))))) = some (r1, r2, r3) := H
 have A2 := am A20
 clear A20
 replace H := obs H
 obtain ⟨⟨t454, t457, t460, t463⟩, A30, H⟩ := H
 replace H : ((spec_l6Rd_pick.f k s0_0 t463 30).bind fun bt465 => (if bt465.1 = 0 then ((spec_l6Rd_pick.f k s0_0 bt465.2 (t457.length : Int)).bind fun bt467 => ((spec_l6Rd_pick.f k s0_0 bt467.2 4).bind fun bt469 => (if 0 ≤ bt467.1 then (if bt467.1 < (t457.length : Int) then (some ((t457.set (bt467.1 : Int).toNat (⟨(rd_T55 t457 bt467.1).f0, bt469.1⟩ : S55)), t460, bt469.2)) else (none)) else (none)))) else (if bt465.1 = 1 then (if (t460.length : Int) > 0 then ((spec_l6Rd_pick.f k s0_0 bt465.2 (t460.length : Int)).bind fun bt472 => (if 0 ≤ bt472.1 then (if bt472.1 < (t460.length : Int) then ((spec_l6Rd_pick.f k s0_0 bt472.2 10).bind fun bt475 => (if 0 < (((rd_T38 t460 bt472.1).f1).length : Int) then (some (t457, (t460.set (bt472.1 : Int).toNat (⟨(rd_T38 t460 bt472.1).f0, (((rd_T38 t460 bt472.1).f1).set (0 : Int).toNat bt475.1)⟩ : S38)), bt475.2)) else (none))) else (none)) else (none))) else (some (t457, t460, bt465.2))) else (if bt465.1 = 2 then (if t460.length < 3518437208883 then (some (t457, (t460 ++ [(⟨(⟨#[65]⟩ : ByteArray), (([0] : List Int))⟩ : S38)]), bt465.2)) else (none)) else (some (t457, t460, bt465.2)))))) = some (r1, r2, r3) := H
 have A3 := am A30
 clear A30
 replace H := obs H
 obtain ⟨⟨t465, t466⟩, A40, H⟩ := H
 replace H : (if t465 = 0 then ((spec_l6Rd_pick.f k s0_0 t466 (t457.length : Int)).bind fun bt467 => ((spec_l6Rd_pick.f k s0_0 bt467.2 4).bind fun bt469 => (if 0 ≤ bt467.1 then (if bt467.1 < (t457.length : Int) then (some ((t457.set (bt467.1 : Int).toNat (⟨(rd_T55 t457 bt467.1).f0, bt469.1⟩ : S55)), t460, bt469.2)) else (none)) else (none)))) else (if t465 = 1 then (if (t460.length : Int) > 0 then ((spec_l6Rd_pick.f k s0_0 t466 (t460.length : Int)).bind fun bt472 => (if 0 ≤ bt472.1 then (if bt472.1 < (t460.length : Int) then ((spec_l6Rd_pick.f k s0_0 bt472.2 10).bind fun bt475 => (if 0 < (((rd_T38 t460 bt472.1).f1).length : Int) then (some (t457, (t460.set (bt472.1 : Int).toNat (⟨(rd_T38 t460 bt472.1).f0, (((rd_T38 t460 bt472.1).f1).set (0 : Int).toNat bt475.1)⟩ : S38)), bt475.2)) else (none))) else (none)) else (none))) else (some (t457, t460, t466))) else (if t465 = 2 then (if t460.length < 3518437208883 then (some (t457, (t460 ++ [(⟨(⟨#[65]⟩ : ByteArray), (([0] : List Int))⟩ : S38)]), t466)) else (none)) else (some (t457, t460, t466))))) = some (r1, r2, r3) := H
 have A4 := am A40
 clear A40
 by_cases c5 : t465 = 0
 · rw [if_pos c5] at H
   have c5b0 : (t465 == 0) = true := beq_iff_eq.mpr c5
   have c5b1 : (t465 != 0) = false := bne_eq_false_iff_eq.mpr c5
   clear c5
   replace H := obs H
   obtain ⟨⟨t467, t468⟩, A60, H⟩ := H
   replace H : ((spec_l6Rd_pick.f k s0_0 t468 4).bind fun bt469 => (if 0 ≤ t467 then (if t467 < (t457.length : Int) then (some ((t457.set (t467 : Int).toNat (⟨(rd_T55 t457 t467).f0, bt469.1⟩ : S55)), t460, bt469.2)) else (none)) else (none))) = some (r1, r2, r3) := H
   have A6 := am A60
   clear A60
   replace H := obs H
   obtain ⟨⟨t469, t470⟩, A70, H⟩ := H
   replace H : (if 0 ≤ t467 then (if t467 < (t457.length : Int) then (some ((t457.set (t467 : Int).toNat (⟨(rd_T55 t457 t467).f0, t469⟩ : S55)), t460, t470)) else (none)) else (none)) = some (r1, r2, r3) := H
   have A7 := am A70
   clear A70
   by_cases c8 : 0 ≤ t467
   rotate_left
   · rw [if_neg c8] at H
     exact absurd H (by simp)
   rw [if_pos c8] at H
   have c8b0 : decide (0 ≤ t467) = true := decide_eq_true c8
   clear c8
   by_cases c9 : t467 < (t457.length : Int)
   rotate_left
   · rw [if_neg c9] at H
     exact absurd H (by simp)
   rw [if_pos c9] at H
   have c9b0 : decide (t467 < (t457.length : Int)) = true := decide_eq_true c9
   clear c9
   obtain ⟨y471, hy471⟩ : ∃ y_ : List (S55), y_ = (t457.set (t467 : Int).toNat (⟨(rd_T55 t457 t467).f0, t469⟩ : S55)) := ⟨_, rfl⟩
   replace H : (some (y471, t460, t470)) = some (r1, r2, r3) := hY hy471 H
   have Ny471 := am hy471
   clear hy471
   simp only [Option.some.injEq, Prod.mk.injEq] at H
   obtain ⟨rfl, rfl, rfl⟩ := H
   go_enter Try.func50, Try.ntmps50
   try go_wp2_with (first | ((with_reducible refine gate_dst (N := 2) rfl ?_); refine bx 31 #[.slice none 0 0, .slice none 0 0] ?_; intro gb451 hg w11 hbox hb; replace HB := am (below_step (zb HB) hb); have BK451 := am (hbox); have GW451 := am (zm hg (zh HK)); have GE451 := am ((Nat.le_trans HW0.out (zm hg (zh HK)))); replace HK := am (KeepBut.trans (zh HK) (KeepBut.of_below hb g none) (.inl rfl)); have NB0_451 := am (ix hg (zi HI0)); have NB451_0 := am (iy hg (zi HI0)); replace HI0 := am (IsS93.below (zi HI0) hb); clear hb hbox hg) | ((with_reducible refine gate_callee (f := 51) rfl ?_); refine gl Try.func51 9 #[.pointer (some ⟨g, 0, none⟩), .int .i64 22] rfl rfl rfl ?_; (with_reducible refine (spec_l6Rd_pick.calls k g s0_0 s0_1 22 t452 t453 w0 _ ?side1 ?side2 A2.out).mono ?_); (case side1 => exact zi HI0); (case side2 => exact zb HB); rintro e w12 ⟨rfl, hi, hb, hk⟩; refine ⟨_, rfl, ?_⟩; replace BK451 := am (KeepBut.blk hk (zk BK451) NB451_0.out (by simp)); replace HK := am (KeepBut.trans (zh HK) hk (.inl rfl)); replace HB := am (hb); replace HI0 := am (hi); (try clear hb); (try clear hb2); (try clear hk); (try clear hi)) | ((with_reducible refine gate_callee (f := 73) rfl ?_); refine gl Try.func73 11 #[.pointer (some ⟨g, 0, none⟩), .int .i64 (wrap64 (3 + t452))] rfl rfl rfl ?_; (with_reducible refine (spec_l71Ops.calls k g s0_0 t453 (wrap64 (3 + t452)) t454 t457 t460 t463 w0 _ ?side1 ?side2 A3.out).mono ?_); (case side1 => exact zi HI0); (case side2 => exact zb HB); rintro e w13 ⟨v455, v458, v461, rfl, ho0, ho1, ho2, hi, hb, hk⟩; refine ⟨_, rfl, ?_⟩; replace BK451 := am (KeepBut.blk hk (zk BK451) NB451_0.out (by simp)); have HO456 := am (Kd.R_lower ho0 (keep_size (zh HK))); have HO459 := am (Kd.R_lower ho1 (keep_size (zh HK))); have HO462 := am (Kd.S_lower ho2 (keep_size (zh HK))); replace HK := am (KeepBut.trans (zh HK) hk (.inl rfl)); replace HB := am (hb); replace HI0 := am (hi); (try clear hb); (try clear hb2); (try clear hk); (try clear hi); (try clear ho0); (try clear ho1); (try clear ho2)) | ((with_reducible refine gate_dst (N := 4) rfl ?_); refine bx 31 #[.slice none 0 0, .slice none 0 0] ?_; intro gb464 hg w14 hbox hb; replace HO456 := am (Kd.R_below (zr HO456) hb); replace HO459 := am (Kd.R_below (zr HO459) hb); replace HO462 := am (Kd.S_below (zs HO462) hb); replace HB := am (below_step (zb HB) hb); have BK464 := am (hbox); have GW464 := am (zm hg (zh HK)); have GE464 := am ((Nat.le_trans HW0.out (zm hg (zh HK)))); replace HK := am (KeepBut.trans (zh HK) (KeepBut.of_below hb g none) (.inl rfl)); have NB451_464 := am (zx hg (zk BK451)); have NB464_451 := am (zy hg (zk BK451)); replace BK451 := am (blk_below (zk BK451) hb); have NB0_464 := am (ix hg (zi HI0)); have NB464_0 := am (iy hg (zi HI0)); replace HI0 := am (IsS93.below (zi HI0) hb); clear hb hbox hg; obtain ⟨Ao15, co15, eo15⟩ := Kd.R_slice HO459.out; subst eo15; have hnb16 := NB464_451.out; have hnc16 := NB451_464.out; have hnb17 := NB464_0.out; have hnc17 := NB0_464.out; have hcz18_0 := ce0 BK464; have hcz18_1 := ce1 BK464; have hfz18_0 := bfz BK464 0; have hfz18_1 := bfz BK464 1; obtain ⟨Ao19, co19, eo19⟩ := Kd.S_slice HO462.out; subst eo19) | ((with_reducible refine gate_callee (f := 51) rfl ?_); refine gl Try.func51 15 #[.pointer (some ⟨g, 0, none⟩), .int .i64 30] rfl rfl rfl ?_; (with_reducible refine (spec_l6Rd_pick.calls k g s0_0 t463 30 t465 t466 w0 _ ?side1 ?side2 A4.out).mono ?_); (case side1 => exact zi HI0); (case side2 => exact zb HB); rintro e w20 ⟨rfl, hi, hb, hk⟩; refine ⟨_, rfl, ?_⟩; replace BK451 := am (KeepBut.blk hk (zk BK451) NB451_0.out (by simp)); replace HO456 := am (Kd.R_mono (Kd.R_keep (IsS93.apart (zi HI0) (rf HO456 BK464) (by decide)) hk (fun _ h => h.2)) (fun _ h => h.1)); replace HO459 := am (Kd.R_mono (Kd.R_keep (IsS93.apart (zi HI0) (rf HO459 BK464) (by decide)) hk (fun _ h => h.2)) (fun _ h => h.1)); replace HO462 := am (Kd.S_mono (Kd.S_keep (IsS93.apartS (zi HI0) (sf HO462 BK464) (by decide)) hk (fun _ h => h.2)) (fun _ h => h.1)); replace BK464 := am (KeepBut.blk hk (g' := gb464) (o := .cells #[.slice Ao15 t457.length co15, .slice Ao19 t460.length co19] 31 (0, 0)) (zp BK464) NB464_0.out (by simp)); replace HK := am (KeepBut.trans (zh HK) hk (.inl rfl)); replace HB := am (hb); replace HI0 := am (hi); (try clear hb); (try clear hb2); (try clear hk); (try clear hi)))
   replace HO456 := am (Kd.R_drew HO456.out)
   replace HO459 := am (Kd.R_drew HO459.out)
   replace HO462 := am (Kd.S_drew HO462.out)
   replace BK451 := am (blk_drew BK451.out)
   replace BK464 := am (blk_drew BK464.out)
   replace HI0 := am (IsS93.drew HI0.out)
   replace HK := am (keep_drew HK.out)
   replace HB := am (below_drew1 HB.out)
   refine start_ (n := 12) (S := fun w' => w'.cell? ⟨gb464, 0, none⟩ = some (.slice Ao15 t457.length co15) ∧ w'.cell? ⟨gb464, 1, none⟩ = some (.slice Ao19 t460.length co19)) (ds := [11]) (bs 12 0) (by kernel_rfl) rfl rfl ⟨ce0 BK464, ce1 BK464⟩ (fun hHeld => ?_); refine with_tabW spec_l71Pool.tab4 spec_l71Pool.bits4 (fun HT_ HW_ => ?_)
   generalize w20.drew = w21 at HO456 HO459 HO462 BK451 BK464 HI0 HK HB hHeld ⊢
   refine pu 0 18 12 1 rfl rfl ?_
   refine pu 2 20 12 5 rfl rfl ?_
   refine pu 3 21 12 13 rfl rfl ?_
   refine pu 7 25 12 141 rfl rfl ?_
   refine ta2 1 19 12 143 rfl rfl hHeld ?_
   refine ta2 4 22 12 159 rfl rfl hHeld ?_
   refine pu 5 23 12 191 rfl rfl ?_
   refine oz 6 12 255 rfl rfl (fun K hK => ?_)
   refine gs Try.func51 #[.pointer (some ⟨g, 0, none⟩), .int .i64 (t457.length : Int)] rfl rfl ?_
   with_reducible refine (spec_l6Rd_pick.calls k g s0_0 t466 (t457.length : Int) t467 t468 w0 _ ?side1 ?side2 A6.out).mono ?_
   (case side1 => exact zi HI0)
   (case side2 => exact zb HB)
   rintro e w22 ⟨rfl, hi, hb, hk⟩
   refine ⟨_, rfl, ?_⟩
   replace BK451 := am (KeepBut.blk hk (zk BK451) NB451_0.out (by simp))
   replace HO456 := am (Kd.R_mono (Kd.R_keep (IsS93.apart (zi HI0) (zr HO456) (by decide)) hk (fun _ h => h.2)) (fun _ h => h.1))
   replace HO459 := am (Kd.R_mono (Kd.R_keep (IsS93.apart (zi HI0) (zr HO459) (by decide)) hk (fun _ h => h.2)) (fun _ h => h.1))
   replace HO462 := am (Kd.S_mono (Kd.S_keep (IsS93.apartS (zi HI0) (zs HO462) (by decide)) hk (fun _ h => h.2)) (fun _ h => h.1))
   replace BK464 := am (KeepBut.blk hk (zk BK464) NB464_0.out (by simp))
   replace HK := am (KeepBut.trans (zh HK) hk (.inl rfl))
   replace HB := am (hb)
   replace HI0 := am (hi)
   (try clear hb)
   (try clear hb2)
   (try clear hk)
   (try clear hi)
   refine hK.out _ _ ⟨ce0 BK464, ce1 BK464⟩ (fun hHeld => ?_)
   clear hK K
   refine norm_ (a' := ?_) ?_ ?_
   rotate_left
   · show Act.put _ (some 24) _ = _
     simp only [Act.put, List.setIfInBounds_toArray, List.set_cons_zero, List.set_cons_succ, i64_w, i32_w]
     rfl
   refine oz 8 12 511 rfl rfl (fun K hK => ?_)
   refine gs Try.func51 #[.pointer (some ⟨g, 0, none⟩), .int .i64 4] rfl rfl ?_
   with_reducible refine (spec_l6Rd_pick.calls k g s0_0 t468 4 t469 t470 w0 _ ?side1 ?side2 A7.out).mono ?_
   (case side1 => exact zi HI0)
   (case side2 => exact zb HB)
   rintro e w23 ⟨rfl, hi, hb, hk⟩
   refine ⟨_, rfl, ?_⟩
   replace BK451 := am (KeepBut.blk hk (zk BK451) NB451_0.out (by simp))
   replace HO456 := am (Kd.R_mono (Kd.R_keep (IsS93.apart (zi HI0) (zr HO456) (by decide)) hk (fun _ h => h.2)) (fun _ h => h.1))
   replace HO459 := am (Kd.R_mono (Kd.R_keep (IsS93.apart (zi HI0) (zr HO459) (by decide)) hk (fun _ h => h.2)) (fun _ h => h.1))
   replace HO462 := am (Kd.S_mono (Kd.S_keep (IsS93.apartS (zi HI0) (zs HO462) (by decide)) hk (fun _ h => h.2)) (fun _ h => h.1))
   replace BK464 := am (KeepBut.blk hk (zk BK464) NB464_0.out (by simp))
   replace HK := am (KeepBut.trans (zh HK) hk (.inl rfl))
   replace HB := am (hb)
   replace HI0 := am (hi)
   (try clear hb)
   (try clear hb2)
   (try clear hk)
   (try clear hi)
   have p10 : 0 ≤ (t467 : Int) := of_decide_eq_true zl
   have q10 : (t467 : Int) < ((t457.length : Int) : Int) := of_decide_eq_true zl
   obtain ⟨go10, co10, eo10, gb10, gl10, cl10, HG10⟩ := Kd.R_form HO459.out (by omega)
   (first | cases eo10 | (injection eo10 with ea_ en_ ec_; (first | subst ea_ | (injection ea_ with ea_; subst ea_)); subst ec_; clear en_))
   have GB10 := am gb10
   have GG10 := am HG10
   clear gb10 gl10 HG10
   obtain ⟨ce10, hcl10, hM10, hcc10, hfr10⟩ := Kd.R_elem HO459.out z55 (t467 : Int) p10 q10
   obtain rfl := k55_openM hM10
   have hx10_0 : World.cell? _ ⟨go10, (t467 : Int).toNat * 2, none⟩ = some (.string ((rd_T55 t457 t467).f0)) := hcc10 0 _ rfl
   have hx10_1 : World.cell? _ ⟨go10, (t467 : Int).toNat * 2 + 1, none⟩ = some (.int .i64 ((rd_T55 t457 t467).f1)) := hcc10 1 _ rfl
   have hf10_0 : World.frozen? _ ⟨go10, (t467 : Int).toNat * 2, none⟩ = false := hfr10 0
   have hf10_1 : World.frozen? _ ⟨go10, (t467 : Int).toNat * 2 + 1, none⟩ = false := hfr10 1
   clear hcl10 hcc10 hfr10 hM10
   replace p10 := eq_true p10
   replace q10 := eq_true q10
   have HN0_go10 := am (show g ≠ go10 from by have h_ := IsS93.own_ne HI0.out HO459.out (by decide); intro e_; exact h_ (by rw [e_]; rfl))
   obtain ⟨ce24, hcl24, hM24, hcc24, hfr24⟩ := Kd.R_elem HO459.out z55 (t467 : Int) (of_decide_eq_true zl) (by have h_ : (t467 : Int) < ((t457.length : Int) : Int) := of_decide_eq_true zl; first | exact h_ | (have e_ := (Kd.R_reads' HO459.out).1; omega) | simpa using h_)
   obtain rfl := k55_openM hM24
   have HP24 := (Kd.R_seg HO459.out (t467 : Int) (of_decide_eq_true zl) (by have h_ : (t467 : Int) < ((t457.length : Int) : Int) := of_decide_eq_true zl; first | exact h_ | (have e_ := (Kd.R_reads' HO459.out).1; omega) | simpa using h_) (seg := [.int .i64 t469]) (j := 1) hcl24 hcc24 (show 2 ≤ 2 from by decide) (x' := (⟨(rd_T55 t457 t467).f0, t469⟩ : S55)) (k55_mkM _ _ _ (⟨(rd_T55 t457 t467).f0, t469⟩ : S55) ) (fun _ hk => hk)).1
   rw [← Ny471.out] at HP24
   have HQ24 := am HP24
   clear hcl24 hcc24 hfr24 hM24 HP24
   refine hK.out _ _ ⟨ce0 BK464, ce1 BK464⟩ (fun hHeld => ?_)
   clear hK K
   refine norm_ (a' := ?_) ?_ ?_
   rotate_left
   · show Act.put _ (some 26) _ = _
     simp only [Act.put, List.setIfInBounds_toArray, List.set_cons_zero, List.set_cons_succ, i64_w, i32_w]
     rfl
   refine pu 9 27 12 1023 rfl rfl ?_
   refine pu 10 28 12 2047 rfl rfl ?_
   refine la 11 12 4095 rfl rfl (fun K hK => ?_)
   refine skip_ (w1 := ?_) (by rfl) rfl ?_ ?_
   rotate_left
   · go_simp
     rfl
   refine hK.out _ _ ?_
   clear hK K
   refine done_ (done_of HT_.out (by kernel_rfl)) ?_
   have n0_ : Aside0 (Kd.R k103 103 (w23.setCell ⟨go10, (t467 : Int).toNat * 2 + 1, none⟩ (.int .i64 t469)) w.heap.size (fun _ => True) v455 t454) := ⟨by (with_reducible repeat (first | apply Kd.R_alloc | apply Kd.R_drewN | apply Kd.R_drew)); exact Kd.R_mono (Kd.R_far (p := ⟨go10, (t467 : Int).toNat * 2 + 1, none⟩) (Kd.R_types HO456.out GG10.out (by decide)) (fun _ hk => hk.2) (.int .i64 t469)) (fun _ hk => trivial)⟩
   have n1_ : Aside0 (Kd.R k55 55 (w23.setCell ⟨go10, (t467 : Int).toNat * 2 + 1, none⟩ (.int .i64 t469)) w.heap.size (fun _ => True) (.slice (some ⟨go10, 0, none⟩) t457.length co15) y471) := ⟨zr HQ24⟩
   have n2_ : Aside0 (Kd.S k38 38 (w23.setCell ⟨go10, (t467 : Int).toNat * 2 + 1, none⟩ (.int .i64 t469)) w.heap.size (fun _ => True) (.slice Ao19 t460.length co19) t460) := ⟨by (with_reducible repeat (first | apply Kd.S_alloc | apply Kd.S_drewN | apply Kd.S_drew)); exact Kd.S_mono (Kd.S_far (p := ⟨go10, (t467 : Int).toNat * 2 + 1, none⟩) (Kd.S_types HO462.out GG10.out (by decide)) (fun _ hk => hk.2) (.int .i64 t469)) (fun _ hk => trivial)⟩
   have n3_ : Aside0 ((w23.setCell ⟨go10, (t467 : Int).toNat * 2 + 1, none⟩ (.int .i64 t469)).heap[gb451]? = some (.cells #[.slice none 0 0, .slice none 0 0] 31 (0, 0))) := ⟨by (with_reducible repeat (first | refine blk_drewN ?_ _ | refine blk_drew ?_ | refine blk_alloc ?_ _)); refine blk_far ?_ (by have h_ := Kd.R_ne HO459.out BK451.out (by decide); intro e_; exact h_ (by rw [e_]; rfl)) _; (with_reducible repeat (first | refine blk_drewN ?_ _ | refine blk_drew ?_ | refine blk_alloc ?_ _)); exact BK451.out⟩
   have n4_ : Aside0 ((w23.setCell ⟨go10, (t467 : Int).toNat * 2 + 1, none⟩ (.int .i64 t469)).heap[gb464]? = some (.cells #[.slice (some ⟨go10, 0, none⟩) t457.length co15, .slice Ao19 t460.length co19] 31 (0, 0))) := ⟨by (with_reducible repeat (first | refine blk_drewN ?_ _ | refine blk_drew ?_ | refine blk_alloc ?_ _)); refine blk_far ?_ (by have h_ := Kd.R_ne HO459.out BK464.out (by decide); intro e_; exact h_ (by rw [e_]; rfl)) _; (with_reducible repeat (first | refine blk_drewN ?_ _ | refine blk_drew ?_ | refine blk_alloc ?_ _)); exact BK464.out⟩
   have n5_ : Aside0 (IsS93 w0 (w23.setCell ⟨go10, (t467 : Int).toNat * 2 + 1, none⟩ (.int .i64 t469)) g s0_0 t470) := ⟨zi HI0⟩
   have n6_ : Aside0 (KeepBut w (w23.setCell ⟨go10, (t467 : Int).toNat * 2 + 1, none⟩ (.int .i64 t469)) g none) := ⟨zh HK⟩
   have n7_ : Aside0 (Below w0.heap.size w0 (w23.setCell ⟨go10, (t467 : Int).toNat * 2 + 1, none⟩ (.int .i64 t469))) := ⟨by repeat (first | (with_reducible first | exact HB.out | apply below_alloc | apply pw_below_drewN | apply below_drew1 | refine below_set ?_ (Nat.le_trans HL.out GB10.out) | refine below_set ?_ (IsS93.ge HI0.out) | refine below_set ?_ GE451.out | refine below_set ?_ GE464.out) | exact HB.out)⟩
   (try clear HO456)
   (try clear HO459)
   (try clear HO462)
   (try clear BK451)
   (try clear BK464)
   (try clear HI0)
   (try clear HK)
   (try clear HB)
   generalize (w23.setCell ⟨go10, (t467 : Int).toNat * 2 + 1, none⟩ (.int .i64 t469)) = w25 at n0_ n1_ n2_ n3_ n4_ n5_ n6_ n7_ ⊢
   have HO456 := n0_
   have HO459 := n1_
   have HO462 := n2_
   have BK451 := n3_
   have BK464 := n4_
   have HI0 := n5_
   have HK := n6_
   have HB := n7_
   clear n0_ n1_ n2_ n3_ n4_ n5_ n6_ n7_
   have hcz26_0 := ce0 BK464
   have hcz26_1 := ce1 BK464
   have hfz26_0 := bfz BK464 0
   have hfz26_1 := bfz BK464 1
   have hnb27 := NB451_0.out
   have hnc27 := NB0_451.out
   have hcz28_0 := ce0 BK451
   have hcz28_1 := ce1 BK451
   have hfz28_0 := bfz BK451 0
   have hfz28_1 := bfz BK451 1
   try go_wp2
   refine bodyPost_ret (results_cell_row rfl _ _ gb451 31 #[.slice (some ⟨go10, 0, none⟩) t457.length co15, .slice Ao19 t460.length co19] (0, 0) _ rfl (zp BK451) Try.underlying31 rfl (by kernel_rfl)) rfl ?_
   exact ⟨_, _, zw, by (with_reducible repeat (first | apply Kd.R_alloc | apply Kd.R_drewN | apply Kd.R_drew)); exact Kd.R_mono (Kd.R_far (p := ⟨gb451, 1, none⟩) (Kd.R_far (p := ⟨gb451, 0, none⟩) (Kd.R_types HO459.out BK451.out (by decide)) (fun _ hk => hk.2) (.slice (some ⟨go10, 0, none⟩) t457.length co15)) (fun _ hk => hk.2) (.slice Ao19 t460.length co19)) (fun _ hk => trivial), by (with_reducible repeat (first | apply Kd.S_alloc | apply Kd.S_drewN | apply Kd.S_drew)); exact Kd.S_mono (Kd.S_far (p := ⟨gb451, 1, none⟩) (Kd.S_far (p := ⟨gb451, 0, none⟩) (Kd.S_types HO462.out BK451.out (by decide)) (fun _ hk => hk.2) (.slice (some ⟨go10, 0, none⟩) t457.length co15)) (fun _ hk => hk.2) (.slice Ao19 t460.length co19)) (fun _ hk => trivial), (zi HI0), (zb HB), (zh HK)⟩
 rw [if_neg c5] at H
 have c5b0 : (t465 == 0) = false := beq_eq_false_iff_ne.mpr c5
 have c5b1 : (t465 != 0) = true := bne_iff_ne.mpr c5
 by_cases c29 : t465 = 1
 rotate_left
 · rw [if_neg c29] at H
   have c29b0 : (t465 == 1) = false := beq_eq_false_iff_ne.mpr c29
   have c29b1 : (t465 != 1) = true := bne_iff_ne.mpr c29
   by_cases c70 : t465 = 2
   rotate_left
   · rw [if_neg c70] at H
     have c70b0 : (t465 == 2) = false := beq_eq_false_iff_ne.mpr c70
     have c70b1 : (t465 != 2) = true := bne_iff_ne.mpr c70
     simp only [Option.some.injEq, Prod.mk.injEq] at H
     obtain ⟨rfl, rfl, rfl⟩ := H
     go_enter Try.func50, Try.ntmps50
     go_wp2_with (first | ((with_reducible refine gate_dst (N := 2) rfl ?_); refine bx 31 #[.slice none 0 0, .slice none 0 0] ?_; intro gb451 hg w91 hbox hb; replace HB := am (below_step (zb HB) hb); have BK451 := am (hbox); have GW451 := am (zm hg (zh HK)); have GE451 := am ((Nat.le_trans HW0.out (zm hg (zh HK)))); replace HK := am (KeepBut.trans (zh HK) (KeepBut.of_below hb g none) (.inl rfl)); have NB0_451 := am (ix hg (zi HI0)); have NB451_0 := am (iy hg (zi HI0)); replace HI0 := am (IsS93.below (zi HI0) hb); clear hb hbox hg) | ((with_reducible refine gate_callee (f := 51) rfl ?_); refine gl Try.func51 9 #[.pointer (some ⟨g, 0, none⟩), .int .i64 22] rfl rfl rfl ?_; (with_reducible refine (spec_l6Rd_pick.calls k g s0_0 s0_1 22 t452 t453 w0 _ ?side1 ?side2 A2.out).mono ?_); (case side1 => exact zi HI0); (case side2 => exact zb HB); rintro e w92 ⟨rfl, hi, hb, hk⟩; refine ⟨_, rfl, ?_⟩; replace BK451 := am (KeepBut.blk hk (zk BK451) NB451_0.out (by simp)); replace HK := am (KeepBut.trans (zh HK) hk (.inl rfl)); replace HB := am (hb); replace HI0 := am (hi); (try clear hb); (try clear hb2); (try clear hk); (try clear hi)) | ((with_reducible refine gate_callee (f := 73) rfl ?_); refine gl Try.func73 11 #[.pointer (some ⟨g, 0, none⟩), .int .i64 (wrap64 (3 + t452))] rfl rfl rfl ?_; (with_reducible refine (spec_l71Ops.calls k g s0_0 t453 (wrap64 (3 + t452)) t454 t457 t460 t463 w0 _ ?side1 ?side2 A3.out).mono ?_); (case side1 => exact zi HI0); (case side2 => exact zb HB); rintro e w93 ⟨v455, v458, v461, rfl, ho0, ho1, ho2, hi, hb, hk⟩; refine ⟨_, rfl, ?_⟩; replace BK451 := am (KeepBut.blk hk (zk BK451) NB451_0.out (by simp)); have HO456 := am (Kd.R_lower ho0 (keep_size (zh HK))); have HO459 := am (Kd.R_lower ho1 (keep_size (zh HK))); have HO462 := am (Kd.S_lower ho2 (keep_size (zh HK))); replace HK := am (KeepBut.trans (zh HK) hk (.inl rfl)); replace HB := am (hb); replace HI0 := am (hi); (try clear hb); (try clear hb2); (try clear hk); (try clear hi); (try clear ho0); (try clear ho1); (try clear ho2)) | ((with_reducible refine gate_dst (N := 4) rfl ?_); refine bx 31 #[.slice none 0 0, .slice none 0 0] ?_; intro gb464 hg w94 hbox hb; replace HO456 := am (Kd.R_below (zr HO456) hb); replace HO459 := am (Kd.R_below (zr HO459) hb); replace HO462 := am (Kd.S_below (zs HO462) hb); replace HB := am (below_step (zb HB) hb); have BK464 := am (hbox); have GW464 := am (zm hg (zh HK)); have GE464 := am ((Nat.le_trans HW0.out (zm hg (zh HK)))); replace HK := am (KeepBut.trans (zh HK) (KeepBut.of_below hb g none) (.inl rfl)); have NB451_464 := am (zx hg (zk BK451)); have NB464_451 := am (zy hg (zk BK451)); replace BK451 := am (blk_below (zk BK451) hb); have NB0_464 := am (ix hg (zi HI0)); have NB464_0 := am (iy hg (zi HI0)); replace HI0 := am (IsS93.below (zi HI0) hb); clear hb hbox hg; obtain ⟨Ao95, co95, eo95⟩ := Kd.R_slice HO459.out; subst eo95; have hnb96 := NB464_451.out; have hnc96 := NB451_464.out; have hnb97 := NB464_0.out; have hnc97 := NB0_464.out; have hcz98_0 := ce0 BK464; have hcz98_1 := ce1 BK464; have hfz98_0 := bfz BK464 0; have hfz98_1 := bfz BK464 1; obtain ⟨Ao99, co99, eo99⟩ := Kd.S_slice HO462.out; subst eo99) | ((with_reducible refine gate_callee (f := 51) rfl ?_); refine gl Try.func51 15 #[.pointer (some ⟨g, 0, none⟩), .int .i64 30] rfl rfl rfl ?_; (with_reducible refine (spec_l6Rd_pick.calls k g s0_0 t463 30 t465 t466 w0 _ ?side1 ?side2 A4.out).mono ?_); (case side1 => exact zi HI0); (case side2 => exact zb HB); rintro e w100 ⟨rfl, hi, hb, hk⟩; refine ⟨_, rfl, ?_⟩; replace BK451 := am (KeepBut.blk hk (zk BK451) NB451_0.out (by simp)); replace HO456 := am (Kd.R_mono (Kd.R_keep (IsS93.apart (zi HI0) (rf HO456 BK464) (by decide)) hk (fun _ h => h.2)) (fun _ h => h.1)); replace HO459 := am (Kd.R_mono (Kd.R_keep (IsS93.apart (zi HI0) (rf HO459 BK464) (by decide)) hk (fun _ h => h.2)) (fun _ h => h.1)); replace HO462 := am (Kd.S_mono (Kd.S_keep (IsS93.apartS (zi HI0) (sf HO462 BK464) (by decide)) hk (fun _ h => h.2)) (fun _ h => h.1)); replace BK464 := am (KeepBut.blk hk (g' := gb464) (o := .cells #[.slice Ao95 t457.length co95, .slice Ao99 t460.length co99] 31 (0, 0)) (zp BK464) NB464_0.out (by simp)); replace HK := am (KeepBut.trans (zh HK) hk (.inl rfl)); replace HB := am (hb); replace HI0 := am (hi); (try clear hb); (try clear hb2); (try clear hk); (try clear hi); have hcz101_0 := ce0 BK464; have hcz101_1 := ce1 BK464; have hfz101_0 := bfz BK464 0; have hfz101_1 := bfz BK464 1; have hnb102 := NB451_0.out; have hnc102 := NB0_451.out; have hcz103_0 := ce0 BK451; have hcz103_1 := ce1 BK451; have hfz103_0 := bfz BK451 0; have hfz103_1 := bfz BK451 1))
     refine bodyPost_ret (results_cell_row rfl _ _ gb451 31 #[.slice Ao95 t457.length co95, .slice Ao99 t460.length co99] (0, 0) _ rfl (zp BK451) Try.underlying31 rfl (by kernel_rfl)) rfl ?_
     exact ⟨_, _, zw, by (with_reducible repeat (first | apply Kd.R_alloc | apply Kd.R_drewN | apply Kd.R_drew)); exact Kd.R_mono (Kd.R_far (p := ⟨gb451, 1, none⟩) (Kd.R_far (p := ⟨gb451, 0, none⟩) (Kd.R_types HO459.out BK451.out (by decide)) (fun _ hk => hk.2) (.slice Ao95 t457.length co95)) (fun _ hk => hk.2) (.slice Ao99 t460.length co99)) (fun _ hk => trivial), by (with_reducible repeat (first | apply Kd.S_alloc | apply Kd.S_drewN | apply Kd.S_drew)); exact Kd.S_mono (Kd.S_far (p := ⟨gb451, 1, none⟩) (Kd.S_far (p := ⟨gb451, 0, none⟩) (Kd.S_types HO462.out BK451.out (by decide)) (fun _ hk => hk.2) (.slice Ao95 t457.length co95)) (fun _ hk => hk.2) (.slice Ao99 t460.length co99)) (fun _ hk => trivial), (zi HI0), (zb HB), (zh HK)⟩
   rw [if_pos c70] at H
   have c70b0 : (t465 == 2) = true := beq_iff_eq.mpr c70
   have c70b1 : (t465 != 2) = false := bne_eq_false_iff_eq.mpr c70
   clear c70
   obtain ⟨y480, hy480⟩ : ∃ y_ : List Int, y_ = (([0] : List Int)) := ⟨_, rfl⟩
   replace H : (if t460.length < 3518437208883 then (some (t457, (t460 ++ [(⟨(⟨#[65]⟩ : ByteArray), y480⟩ : S38)]), t466)) else (none)) = some (r1, r2, r3) := hY hy480 H
   have Ny480 := am hy480
   clear hy480
   by_cases c71 : t460.length < 3518437208883
   rotate_left
   · rw [if_neg c71] at H
     exact absurd H (by simp)
   rw [if_pos c71] at H
   have LMc71 := am c71
   clear c71
   obtain ⟨y483, hy483⟩ : ∃ y_ : List (S38), y_ = (t460 ++ [(⟨(⟨#[65]⟩ : ByteArray), y480⟩ : S38)]) := ⟨_, rfl⟩
   replace H : (some (t457, y483, t466)) = some (r1, r2, r3) := hY hy483 H
   have Ny483 := am hy483
   clear hy483
   simp only [Option.some.injEq, Prod.mk.injEq] at H
   obtain ⟨rfl, rfl, rfl⟩ := H
   go_enter Try.func50, Try.ntmps50
   go_wp2_with (first | ((with_reducible refine gate_dst (N := 2) rfl ?_); refine bx 31 #[.slice none 0 0, .slice none 0 0] ?_; intro gb451 hg w72 hbox hb; replace HB := am (below_step (zb HB) hb); have BK451 := am (hbox); have GW451 := am (zm hg (zh HK)); have GE451 := am ((Nat.le_trans HW0.out (zm hg (zh HK)))); replace HK := am (KeepBut.trans (zh HK) (KeepBut.of_below hb g none) (.inl rfl)); have NB0_451 := am (ix hg (zi HI0)); have NB451_0 := am (iy hg (zi HI0)); replace HI0 := am (IsS93.below (zi HI0) hb); clear hb hbox hg) | ((with_reducible refine gate_callee (f := 51) rfl ?_); refine gl Try.func51 9 #[.pointer (some ⟨g, 0, none⟩), .int .i64 22] rfl rfl rfl ?_; (with_reducible refine (spec_l6Rd_pick.calls k g s0_0 s0_1 22 t452 t453 w0 _ ?side1 ?side2 A2.out).mono ?_); (case side1 => exact zi HI0); (case side2 => exact zb HB); rintro e w73 ⟨rfl, hi, hb, hk⟩; refine ⟨_, rfl, ?_⟩; replace BK451 := am (KeepBut.blk hk (zk BK451) NB451_0.out (by simp)); replace HK := am (KeepBut.trans (zh HK) hk (.inl rfl)); replace HB := am (hb); replace HI0 := am (hi); (try clear hb); (try clear hb2); (try clear hk); (try clear hi)) | ((with_reducible refine gate_callee (f := 73) rfl ?_); refine gl Try.func73 11 #[.pointer (some ⟨g, 0, none⟩), .int .i64 (wrap64 (3 + t452))] rfl rfl rfl ?_; (with_reducible refine (spec_l71Ops.calls k g s0_0 t453 (wrap64 (3 + t452)) t454 t457 t460 t463 w0 _ ?side1 ?side2 A3.out).mono ?_); (case side1 => exact zi HI0); (case side2 => exact zb HB); rintro e w74 ⟨v455, v458, v461, rfl, ho0, ho1, ho2, hi, hb, hk⟩; refine ⟨_, rfl, ?_⟩; replace BK451 := am (KeepBut.blk hk (zk BK451) NB451_0.out (by simp)); have HO456 := am (Kd.R_lower ho0 (keep_size (zh HK))); have HO459 := am (Kd.R_lower ho1 (keep_size (zh HK))); have HO462 := am (Kd.S_lower ho2 (keep_size (zh HK))); replace HK := am (KeepBut.trans (zh HK) hk (.inl rfl)); replace HB := am (hb); replace HI0 := am (hi); (try clear hb); (try clear hb2); (try clear hk); (try clear hi); (try clear ho0); (try clear ho1); (try clear ho2)) | ((with_reducible refine gate_dst (N := 4) rfl ?_); refine bx 31 #[.slice none 0 0, .slice none 0 0] ?_; intro gb464 hg w75 hbox hb; replace HO456 := am (Kd.R_below (zr HO456) hb); replace HO459 := am (Kd.R_below (zr HO459) hb); replace HO462 := am (Kd.S_below (zs HO462) hb); replace HB := am (below_step (zb HB) hb); have BK464 := am (hbox); have GW464 := am (zm hg (zh HK)); have GE464 := am ((Nat.le_trans HW0.out (zm hg (zh HK)))); replace HK := am (KeepBut.trans (zh HK) (KeepBut.of_below hb g none) (.inl rfl)); have NB451_464 := am (zx hg (zk BK451)); have NB464_451 := am (zy hg (zk BK451)); replace BK451 := am (blk_below (zk BK451) hb); have NB0_464 := am (ix hg (zi HI0)); have NB464_0 := am (iy hg (zi HI0)); replace HI0 := am (IsS93.below (zi HI0) hb); clear hb hbox hg; obtain ⟨Ao76, co76, eo76⟩ := Kd.R_slice HO459.out; subst eo76; have hnb77 := NB464_451.out; have hnc77 := NB451_464.out; have hnb78 := NB464_0.out; have hnc78 := NB0_464.out; have hcz79_0 := ce0 BK464; have hcz79_1 := ce1 BK464; have hfz79_0 := bfz BK464 0; have hfz79_1 := bfz BK464 1; obtain ⟨Ao80, co80, eo80⟩ := Kd.S_slice HO462.out; subst eo80) | ((with_reducible refine gate_callee (f := 51) rfl ?_); refine gl Try.func51 15 #[.pointer (some ⟨g, 0, none⟩), .int .i64 30] rfl rfl rfl ?_; (with_reducible refine (spec_l6Rd_pick.calls k g s0_0 t463 30 t465 t466 w0 _ ?side1 ?side2 A4.out).mono ?_); (case side1 => exact zi HI0); (case side2 => exact zb HB); rintro e w81 ⟨rfl, hi, hb, hk⟩; refine ⟨_, rfl, ?_⟩; replace BK451 := am (KeepBut.blk hk (zk BK451) NB451_0.out (by simp)); replace HO456 := am (Kd.R_mono (Kd.R_keep (IsS93.apart (zi HI0) (rf HO456 BK464) (by decide)) hk (fun _ h => h.2)) (fun _ h => h.1)); replace HO459 := am (Kd.R_mono (Kd.R_keep (IsS93.apart (zi HI0) (rf HO459 BK464) (by decide)) hk (fun _ h => h.2)) (fun _ h => h.1)); replace HO462 := am (Kd.S_mono (Kd.S_keep (IsS93.apartS (zi HI0) (sf HO462 BK464) (by decide)) hk (fun _ h => h.2)) (fun _ h => h.1)); replace BK464 := am (KeepBut.blk hk (g' := gb464) (o := .cells #[.slice Ao76 t457.length co76, .slice Ao80 t460.length co80] 31 (0, 0)) (zp BK464) NB464_0.out (by simp)); replace HK := am (KeepBut.trans (zh HK) hk (.inl rfl)); replace HB := am (hb); replace HI0 := am (hi); (try clear hb); (try clear hb2); (try clear hk); (try clear hi); have hcz82_0 := ce0 BK464; have hcz82_1 := ce1 BK464; have hfz82_0 := bfz BK464 0; have hfz82_1 := bfz BK464 1) | ((with_reducible refine gate_dst (N := 53) rfl ?_); refine Kd.R_lit (Kd.int .i64) _ 3 ?hg (N := 53) ?hd (xs := ([0] : List Int)) (inner := [.int .i64 0]) (ok := fun _ => True) (okp := fun _ => True) ?hr ?hp (fun _ hk => hk) trivial (Below.refl _ _) (Nat.le_refl _) (by simp) ?_; (case hd => rfl); (case hg => rfl); (case hr => first | (go_simp; done) | (go_simp; rfl)); (case hp => exact (Reps.one (show Kd.M (Kd.int .i64) _ _ _ 0 [.int .i64 0] from rfl) (Reps.none _ _))); intro v481 w83 ho84 hb hg_ hnew_; clear hg_ hnew_; (first | rw [← Ny480.out] at ho84 | (simp only [Int.reduceToNat] at ho84; rw [← Ny480.out] at ho84)); replace HO456 := am (Kd.R_below (zr HO456) hb); replace HO459 := am (Kd.R_below (zr HO459) hb); replace HO462 := am (Kd.S_elder' (zs HO462) (Kd.R_base ho84) hb); have HO482 := am (Kd.R_lower ho84 (keep_size (zh HK))); replace HI0 := am (IsS93.below (zi HI0) hb); replace BK451 := am (blk_below (zk BK451) hb); replace BK464 := am (blk_below (zk BK464) hb); replace HK := am (KeepBut.trans (zh HK) (KeepBut.of_below hb g none) (.inl rfl)); replace HB := am (below_step (zb HB) hb); clear hb ho84; obtain ⟨Ao85, co85, eo85⟩ := Kd.R_slice HO482.out; subst eo85) | ((with_reducible refine gate_builtin (b := .append) (xs := #[.tmp 52, .tmp 55]) rfl ?_); at_builtin; refine Kd.S_append k38 w.heap.size rfl (.tmp 52) (.tmp 55) 29 38 (.agg #[(.string ⟨#[]⟩), (.slice none 0 0)]) 40 rfl Try.underlying29 info38 rfl (by decide) (by omega) (.slice Ao80 t460.length co80) t460 (⟨(⟨#[65]⟩ : ByteArray), y480⟩ : S38) [.string (⟨#[65]⟩ : ByteArray), .slice Ao85 y480.length co85] (fun _ => True) (fun k_ => some k_ = (.slice Ao85 y480.length co85 : Value).ownBlock) rfl rfl ?aP (fun k_ hk_ => ((Kd.R_mono (ok' := fun k_ => ((fun _ => True)) k_ ∧ some k_ ≠ (.slice Ao80 t460.length co80 : Value).ownBlock) (Kd.R_apart' (HO482.out) (Kd.S_typed HO462.out) (by decide)) (fun k_ hk => ⟨trivial, hk.2⟩))).1 k_ hk_.symm) ?aF ?aO (Below.refl _ _) ?aS ?aL ?_; (case aP => exact k38_mkM _ _ _ (⟨(⟨#[65]⟩ : ByteArray), y480⟩ : S38) (Kd.R_mono (Kd.R_tight rfl (Kd.R_mono (ok' := fun k_ => ((fun _ => True)) k_ ∧ some k_ ≠ (.slice Ao80 t460.length co80 : Value).ownBlock) (Kd.R_apart' (HO482.out) (Kd.S_typed HO462.out) (by decide)) (fun k_ hk => ⟨trivial, hk.2⟩))) (fun _ h_ => h_))); (case aF => exact (fun _ _ => trivial)); (case aO => exact (by (with_reducible repeat (first | apply Kd.S_alloc | apply Kd.S_drewN | apply Kd.S_drew)); exact Kd.S_mono HO462.out (fun k_ hk => ⟨trivial, fun e_ => hk.2 e_⟩))); (case aS => exact (keep_size (zh HK))); (case aL => have := LMc71.out; omega); intro v484 w86 ho hb hg hat; rw [← Ny483.out] at ho; replace HI0 := am (IsS93.grown (zi HI0) hg (IsS93.own_neS HI0.out HO462.out (by decide))); replace BK451 := am (blk_grown (zk BK451) hg (Kd.S_ne HO462.out BK451.out (by decide))); replace HO456 := am (Kd.R_over' (zr HO456) (Kd.S_typed (zs HO462)) (by decide) hg); replace HO459 := am (Kd.R_over' (zr HO459) (Kd.S_typed (zs HO462)) (by decide) hg); replace BK464 := am (blk_grown (zk BK464) hg (Kd.S_ne HO462.out BK464.out (by decide))); replace HB := am (below_weaken (zb HB) HL.out hb); replace HK := am (KeepBut.trans (zh HK) (KeepBut.of_grown hg g) (Kd.S_base2 HO462.out)); have HO485 := am (ho); clear HO462 HO482; clear ho hb hg hat; obtain ⟨Ao87, co87, eo87⟩ := Kd.S_slice HO485.out; subst eo87; have hcz88_0 := ce0 BK464; have hcz88_1 := ce1 BK464; have hfz88_0 := bfz BK464 0; have hfz88_1 := bfz BK464 1; have hnb89 := NB451_0.out; have hnc89 := NB0_451.out; have hcz90_0 := ce0 BK451; have hcz90_1 := ce1 BK451; have hfz90_0 := bfz BK451 0; have hfz90_1 := bfz BK451 1))
   refine bodyPost_ret (results_cell_row rfl _ _ gb451 31 #[.slice Ao76 t457.length co76, .slice Ao87 y483.length co87] (0, 0) _ rfl (zp BK451) Try.underlying31 rfl (by kernel_rfl)) rfl ?_
   exact ⟨_, _, zw, by (with_reducible repeat (first | apply Kd.R_alloc | apply Kd.R_drewN | apply Kd.R_drew)); exact Kd.R_mono (Kd.R_far (p := ⟨gb451, 1, none⟩) (Kd.R_far (p := ⟨gb451, 0, none⟩) (Kd.R_far (p := ⟨gb464, 1, none⟩) (Kd.R_types (Kd.R_types HO459.out BK464.out (by decide)) BK451.out (by decide)) (fun _ hk => hk.1.2) (.slice Ao87 y483.length co87)) (fun _ hk => hk.2) (.slice Ao76 t457.length co76)) (fun _ hk => hk.2) (.slice Ao87 y483.length co87)) (fun _ hk => trivial), by (with_reducible repeat (first | apply Kd.S_alloc | apply Kd.S_drewN | apply Kd.S_drew)); exact Kd.S_mono (Kd.S_far (p := ⟨gb451, 1, none⟩) (Kd.S_far (p := ⟨gb451, 0, none⟩) (Kd.S_far (p := ⟨gb464, 1, none⟩) (Kd.S_types (Kd.S_types HO485.out BK464.out (by decide)) BK451.out (by decide)) (fun _ hk => hk.1.2) (.slice Ao87 y483.length co87)) (fun _ hk => hk.2) (.slice Ao76 t457.length co76)) (fun _ hk => hk.2) (.slice Ao87 y483.length co87)) (fun _ hk => trivial), (zi HI0), (zb HB), (zh HK)⟩
 rw [if_pos c29] at H
 have c29b0 : (t465 == 1) = true := beq_iff_eq.mpr c29
 have c29b1 : (t465 != 1) = false := bne_eq_false_iff_eq.mpr c29
 clear c29
 by_cases c30 : (t460.length : Int) > 0
 rotate_left
 · rw [if_neg c30] at H
   have c30b0 : decide (0 < (t460.length : Int)) = false := decide_eq_false c30
   have c30b1 : decide (0 < t460.length) = false := decide_eq_false (by omega)
   clear c30
   simp only [Option.some.injEq, Prod.mk.injEq] at H
   obtain ⟨rfl, rfl, rfl⟩ := H
   go_enter Try.func50, Try.ntmps50
   go_wp2_with (first | ((with_reducible refine gate_dst (N := 2) rfl ?_); refine bx 31 #[.slice none 0 0, .slice none 0 0] ?_; intro gb451 hg w57 hbox hb; replace HB := am (below_step (zb HB) hb); have BK451 := am (hbox); have GW451 := am (zm hg (zh HK)); have GE451 := am ((Nat.le_trans HW0.out (zm hg (zh HK)))); replace HK := am (KeepBut.trans (zh HK) (KeepBut.of_below hb g none) (.inl rfl)); have NB0_451 := am (ix hg (zi HI0)); have NB451_0 := am (iy hg (zi HI0)); replace HI0 := am (IsS93.below (zi HI0) hb); clear hb hbox hg) | ((with_reducible refine gate_callee (f := 51) rfl ?_); refine gl Try.func51 9 #[.pointer (some ⟨g, 0, none⟩), .int .i64 22] rfl rfl rfl ?_; (with_reducible refine (spec_l6Rd_pick.calls k g s0_0 s0_1 22 t452 t453 w0 _ ?side1 ?side2 A2.out).mono ?_); (case side1 => exact zi HI0); (case side2 => exact zb HB); rintro e w58 ⟨rfl, hi, hb, hk⟩; refine ⟨_, rfl, ?_⟩; replace BK451 := am (KeepBut.blk hk (zk BK451) NB451_0.out (by simp)); replace HK := am (KeepBut.trans (zh HK) hk (.inl rfl)); replace HB := am (hb); replace HI0 := am (hi); (try clear hb); (try clear hb2); (try clear hk); (try clear hi)) | ((with_reducible refine gate_callee (f := 73) rfl ?_); refine gl Try.func73 11 #[.pointer (some ⟨g, 0, none⟩), .int .i64 (wrap64 (3 + t452))] rfl rfl rfl ?_; (with_reducible refine (spec_l71Ops.calls k g s0_0 t453 (wrap64 (3 + t452)) t454 t457 t460 t463 w0 _ ?side1 ?side2 A3.out).mono ?_); (case side1 => exact zi HI0); (case side2 => exact zb HB); rintro e w59 ⟨v455, v458, v461, rfl, ho0, ho1, ho2, hi, hb, hk⟩; refine ⟨_, rfl, ?_⟩; replace BK451 := am (KeepBut.blk hk (zk BK451) NB451_0.out (by simp)); have HO456 := am (Kd.R_lower ho0 (keep_size (zh HK))); have HO459 := am (Kd.R_lower ho1 (keep_size (zh HK))); have HO462 := am (Kd.S_lower ho2 (keep_size (zh HK))); replace HK := am (KeepBut.trans (zh HK) hk (.inl rfl)); replace HB := am (hb); replace HI0 := am (hi); (try clear hb); (try clear hb2); (try clear hk); (try clear hi); (try clear ho0); (try clear ho1); (try clear ho2)) | ((with_reducible refine gate_dst (N := 4) rfl ?_); refine bx 31 #[.slice none 0 0, .slice none 0 0] ?_; intro gb464 hg w60 hbox hb; replace HO456 := am (Kd.R_below (zr HO456) hb); replace HO459 := am (Kd.R_below (zr HO459) hb); replace HO462 := am (Kd.S_below (zs HO462) hb); replace HB := am (below_step (zb HB) hb); have BK464 := am (hbox); have GW464 := am (zm hg (zh HK)); have GE464 := am ((Nat.le_trans HW0.out (zm hg (zh HK)))); replace HK := am (KeepBut.trans (zh HK) (KeepBut.of_below hb g none) (.inl rfl)); have NB451_464 := am (zx hg (zk BK451)); have NB464_451 := am (zy hg (zk BK451)); replace BK451 := am (blk_below (zk BK451) hb); have NB0_464 := am (ix hg (zi HI0)); have NB464_0 := am (iy hg (zi HI0)); replace HI0 := am (IsS93.below (zi HI0) hb); clear hb hbox hg; obtain ⟨Ao61, co61, eo61⟩ := Kd.R_slice HO459.out; subst eo61; have hnb62 := NB464_451.out; have hnc62 := NB451_464.out; have hnb63 := NB464_0.out; have hnc63 := NB0_464.out; have hcz64_0 := ce0 BK464; have hcz64_1 := ce1 BK464; have hfz64_0 := bfz BK464 0; have hfz64_1 := bfz BK464 1; obtain ⟨Ao65, co65, eo65⟩ := Kd.S_slice HO462.out; subst eo65) | ((with_reducible refine gate_callee (f := 51) rfl ?_); refine gl Try.func51 15 #[.pointer (some ⟨g, 0, none⟩), .int .i64 30] rfl rfl rfl ?_; (with_reducible refine (spec_l6Rd_pick.calls k g s0_0 t463 30 t465 t466 w0 _ ?side1 ?side2 A4.out).mono ?_); (case side1 => exact zi HI0); (case side2 => exact zb HB); rintro e w66 ⟨rfl, hi, hb, hk⟩; refine ⟨_, rfl, ?_⟩; replace BK451 := am (KeepBut.blk hk (zk BK451) NB451_0.out (by simp)); replace HO456 := am (Kd.R_mono (Kd.R_keep (IsS93.apart (zi HI0) (rf HO456 BK464) (by decide)) hk (fun _ h => h.2)) (fun _ h => h.1)); replace HO459 := am (Kd.R_mono (Kd.R_keep (IsS93.apart (zi HI0) (rf HO459 BK464) (by decide)) hk (fun _ h => h.2)) (fun _ h => h.1)); replace HO462 := am (Kd.S_mono (Kd.S_keep (IsS93.apartS (zi HI0) (sf HO462 BK464) (by decide)) hk (fun _ h => h.2)) (fun _ h => h.1)); replace BK464 := am (KeepBut.blk hk (g' := gb464) (o := .cells #[.slice Ao61 t457.length co61, .slice Ao65 t460.length co65] 31 (0, 0)) (zp BK464) NB464_0.out (by simp)); replace HK := am (KeepBut.trans (zh HK) hk (.inl rfl)); replace HB := am (hb); replace HI0 := am (hi); (try clear hb); (try clear hb2); (try clear hk); (try clear hi); have hcz67_0 := ce0 BK464; have hcz67_1 := ce1 BK464; have hfz67_0 := bfz BK464 0; have hfz67_1 := bfz BK464 1; have hnb68 := NB451_0.out; have hnc68 := NB0_451.out; have hcz69_0 := ce0 BK451; have hcz69_1 := ce1 BK451; have hfz69_0 := bfz BK451 0; have hfz69_1 := bfz BK451 1))
   refine bodyPost_ret (results_cell_row rfl _ _ gb451 31 #[.slice Ao61 t457.length co61, .slice Ao65 t460.length co65] (0, 0) _ rfl (zp BK451) Try.underlying31 rfl (by kernel_rfl)) rfl ?_
   exact ⟨_, _, zw, by (with_reducible repeat (first | apply Kd.R_alloc | apply Kd.R_drewN | apply Kd.R_drew)); exact Kd.R_mono (Kd.R_far (p := ⟨gb451, 1, none⟩) (Kd.R_far (p := ⟨gb451, 0, none⟩) (Kd.R_types HO459.out BK451.out (by decide)) (fun _ hk => hk.2) (.slice Ao61 t457.length co61)) (fun _ hk => hk.2) (.slice Ao65 t460.length co65)) (fun _ hk => trivial), by (with_reducible repeat (first | apply Kd.S_alloc | apply Kd.S_drewN | apply Kd.S_drew)); exact Kd.S_mono (Kd.S_far (p := ⟨gb451, 1, none⟩) (Kd.S_far (p := ⟨gb451, 0, none⟩) (Kd.S_types HO462.out BK451.out (by decide)) (fun _ hk => hk.2) (.slice Ao61 t457.length co61)) (fun _ hk => hk.2) (.slice Ao65 t460.length co65)) (fun _ hk => trivial), (zi HI0), (zb HB), (zh HK)⟩
 rw [if_pos c30] at H
 have c30b0 : decide (0 < (t460.length : Int)) = true := decide_eq_true c30
 have c30b1 : decide (0 < t460.length) = true := decide_eq_true (by omega)
 clear c30
 replace H := obs H
 obtain ⟨⟨t472, t473⟩, A310, H⟩ := H
 replace H : (if 0 ≤ t472 then (if t472 < (t460.length : Int) then ((spec_l6Rd_pick.f k s0_0 t473 10).bind fun bt475 => (if 0 < (((rd_T38 t460 t472).f1).length : Int) then (some (t457, (t460.set (t472 : Int).toNat (⟨(rd_T38 t460 t472).f0, (((rd_T38 t460 t472).f1).set (0 : Int).toNat bt475.1)⟩ : S38)), bt475.2)) else (none))) else (none)) else (none)) = some (r1, r2, r3) := H
 have A31 := am A310
 clear A310
 by_cases c32 : 0 ≤ t472
 rotate_left
 · rw [if_neg c32] at H
   exact absurd H (by simp)
 rw [if_pos c32] at H
 have c32b0 : decide (0 ≤ t472) = true := decide_eq_true c32
 clear c32
 by_cases c33 : t472 < (t460.length : Int)
 rotate_left
 · rw [if_neg c33] at H
   exact absurd H (by simp)
 rw [if_pos c33] at H
 have c33b0 : decide (t472 < (t460.length : Int)) = true := decide_eq_true c33
 clear c33
 replace H := obs H
 obtain ⟨⟨t475, t476⟩, A340, H⟩ := H
 replace H : (if 0 < (((rd_T38 t460 t472).f1).length : Int) then (some (t457, (t460.set (t472 : Int).toNat (⟨(rd_T38 t460 t472).f0, (((rd_T38 t460 t472).f1).set (0 : Int).toNat t475)⟩ : S38)), t476)) else (none)) = some (r1, r2, r3) := H
 have A34 := am A340
 clear A340
 by_cases c35 : 0 < (((rd_T38 t460 t472).f1).length : Int)
 rotate_left
 · rw [if_neg c35] at H
   exact absurd H (by simp)
 rw [if_pos c35] at H
 have c35b0 : decide (0 < (((rd_T38 t460 t472).f1).length : Int)) = true := decide_eq_true c35
 have c35b1 : decide (0 < ((rd_T38 t460 t472).f1).length) = true := decide_eq_true (by omega)
 clear c35
 obtain ⟨y477, hy477⟩ : ∃ y_ : List Int, y_ = (((rd_T38 t460 t472).f1).set (0 : Int).toNat t475) := ⟨_, rfl⟩
 replace H : (some (t457, (t460.set (t472 : Int).toNat (⟨(rd_T38 t460 t472).f0, y477⟩ : S38)), t476)) = some (r1, r2, r3) := hY hy477 H
 have Ny477 := am hy477
 clear hy477
 obtain ⟨y479, hy479⟩ : ∃ y_ : List (S38), y_ = (t460.set (t472 : Int).toNat (⟨(rd_T38 t460 t472).f0, y477⟩ : S38)) := ⟨_, rfl⟩
 replace H : (some (t457, y479, t476)) = some (r1, r2, r3) := hY hy479 H
 have Ny479 := am hy479
 clear hy479
 simp only [Option.some.injEq, Prod.mk.injEq] at H
 obtain ⟨rfl, rfl, rfl⟩ := H
 go_enter Try.func50, Try.ntmps50
 try go_wp2_with (first | ((with_reducible refine gate_dst (N := 2) rfl ?_); refine bx 31 #[.slice none 0 0, .slice none 0 0] ?_; intro gb451 hg w37 hbox hb; replace HB := am (below_step (zb HB) hb); have BK451 := am (hbox); have GW451 := am (zm hg (zh HK)); have GE451 := am ((Nat.le_trans HW0.out (zm hg (zh HK)))); replace HK := am (KeepBut.trans (zh HK) (KeepBut.of_below hb g none) (.inl rfl)); have NB0_451 := am (ix hg (zi HI0)); have NB451_0 := am (iy hg (zi HI0)); replace HI0 := am (IsS93.below (zi HI0) hb); clear hb hbox hg) | ((with_reducible refine gate_callee (f := 51) rfl ?_); refine gl Try.func51 9 #[.pointer (some ⟨g, 0, none⟩), .int .i64 22] rfl rfl rfl ?_; (with_reducible refine (spec_l6Rd_pick.calls k g s0_0 s0_1 22 t452 t453 w0 _ ?side1 ?side2 A2.out).mono ?_); (case side1 => exact zi HI0); (case side2 => exact zb HB); rintro e w38 ⟨rfl, hi, hb, hk⟩; refine ⟨_, rfl, ?_⟩; replace BK451 := am (KeepBut.blk hk (zk BK451) NB451_0.out (by simp)); replace HK := am (KeepBut.trans (zh HK) hk (.inl rfl)); replace HB := am (hb); replace HI0 := am (hi); (try clear hb); (try clear hb2); (try clear hk); (try clear hi)) | ((with_reducible refine gate_callee (f := 73) rfl ?_); refine gl Try.func73 11 #[.pointer (some ⟨g, 0, none⟩), .int .i64 (wrap64 (3 + t452))] rfl rfl rfl ?_; (with_reducible refine (spec_l71Ops.calls k g s0_0 t453 (wrap64 (3 + t452)) t454 t457 t460 t463 w0 _ ?side1 ?side2 A3.out).mono ?_); (case side1 => exact zi HI0); (case side2 => exact zb HB); rintro e w39 ⟨v455, v458, v461, rfl, ho0, ho1, ho2, hi, hb, hk⟩; refine ⟨_, rfl, ?_⟩; replace BK451 := am (KeepBut.blk hk (zk BK451) NB451_0.out (by simp)); have HO456 := am (Kd.R_lower ho0 (keep_size (zh HK))); have HO459 := am (Kd.R_lower ho1 (keep_size (zh HK))); have HO462 := am (Kd.S_lower ho2 (keep_size (zh HK))); replace HK := am (KeepBut.trans (zh HK) hk (.inl rfl)); replace HB := am (hb); replace HI0 := am (hi); (try clear hb); (try clear hb2); (try clear hk); (try clear hi); (try clear ho0); (try clear ho1); (try clear ho2)) | ((with_reducible refine gate_dst (N := 4) rfl ?_); refine bx 31 #[.slice none 0 0, .slice none 0 0] ?_; intro gb464 hg w40 hbox hb; replace HO456 := am (Kd.R_below (zr HO456) hb); replace HO459 := am (Kd.R_below (zr HO459) hb); replace HO462 := am (Kd.S_below (zs HO462) hb); replace HB := am (below_step (zb HB) hb); have BK464 := am (hbox); have GW464 := am (zm hg (zh HK)); have GE464 := am ((Nat.le_trans HW0.out (zm hg (zh HK)))); replace HK := am (KeepBut.trans (zh HK) (KeepBut.of_below hb g none) (.inl rfl)); have NB451_464 := am (zx hg (zk BK451)); have NB464_451 := am (zy hg (zk BK451)); replace BK451 := am (blk_below (zk BK451) hb); have NB0_464 := am (ix hg (zi HI0)); have NB464_0 := am (iy hg (zi HI0)); replace HI0 := am (IsS93.below (zi HI0) hb); clear hb hbox hg; obtain ⟨Ao41, co41, eo41⟩ := Kd.R_slice HO459.out; subst eo41; have hnb42 := NB464_451.out; have hnc42 := NB451_464.out; have hnb43 := NB464_0.out; have hnc43 := NB0_464.out; have hcz44_0 := ce0 BK464; have hcz44_1 := ce1 BK464; have hfz44_0 := bfz BK464 0; have hfz44_1 := bfz BK464 1; obtain ⟨Ao45, co45, eo45⟩ := Kd.S_slice HO462.out; subst eo45) | ((with_reducible refine gate_callee (f := 51) rfl ?_); refine gl Try.func51 15 #[.pointer (some ⟨g, 0, none⟩), .int .i64 30] rfl rfl rfl ?_; (with_reducible refine (spec_l6Rd_pick.calls k g s0_0 t463 30 t465 t466 w0 _ ?side1 ?side2 A4.out).mono ?_); (case side1 => exact zi HI0); (case side2 => exact zb HB); rintro e w46 ⟨rfl, hi, hb, hk⟩; refine ⟨_, rfl, ?_⟩; replace BK451 := am (KeepBut.blk hk (zk BK451) NB451_0.out (by simp)); replace HO456 := am (Kd.R_mono (Kd.R_keep (IsS93.apart (zi HI0) (rf HO456 BK464) (by decide)) hk (fun _ h => h.2)) (fun _ h => h.1)); replace HO459 := am (Kd.R_mono (Kd.R_keep (IsS93.apart (zi HI0) (rf HO459 BK464) (by decide)) hk (fun _ h => h.2)) (fun _ h => h.1)); replace HO462 := am (Kd.S_mono (Kd.S_keep (IsS93.apartS (zi HI0) (sf HO462 BK464) (by decide)) hk (fun _ h => h.2)) (fun _ h => h.1)); replace BK464 := am (KeepBut.blk hk (g' := gb464) (o := .cells #[.slice Ao41 t457.length co41, .slice Ao45 t460.length co45] 31 (0, 0)) (zp BK464) NB464_0.out (by simp)); replace HK := am (KeepBut.trans (zh HK) hk (.inl rfl)); replace HB := am (hb); replace HI0 := am (hi); (try clear hb); (try clear hb2); (try clear hk); (try clear hi); have hcz47_0 := ce0 BK464; have hcz47_1 := ce1 BK464; have hfz47_0 := bfz BK464 0; have hfz47_1 := bfz BK464 1) | ((with_reducible refine gate_callee (f := 51) rfl ?_); refine gl Try.func51 39 #[.pointer (some ⟨g, 0, none⟩), .int .i64 (t460.length : Int)] rfl rfl rfl ?_; (with_reducible refine (spec_l6Rd_pick.calls k g s0_0 t466 (t460.length : Int) t472 t473 w0 _ ?side1 ?side2 A31.out).mono ?_); (case side1 => exact zi HI0); (case side2 => exact zb HB); rintro e w48 ⟨rfl, hi, hb, hk⟩; refine ⟨_, rfl, ?_⟩; replace BK451 := am (KeepBut.blk hk (zk BK451) NB451_0.out (by simp)); replace HO456 := am (Kd.R_mono (Kd.R_keep (IsS93.apart (zi HI0) (zr HO456) (by decide)) hk (fun _ h => h.2)) (fun _ h => h.1)); replace HO459 := am (Kd.R_mono (Kd.R_keep (IsS93.apart (zi HI0) (zr HO459) (by decide)) hk (fun _ h => h.2)) (fun _ h => h.1)); replace HO462 := am (Kd.S_mono (Kd.S_keep (IsS93.apartS (zi HI0) (zs HO462) (by decide)) hk (fun _ h => h.2)) (fun _ h => h.1)); replace BK464 := am (KeepBut.blk hk (zk BK464) NB464_0.out (by simp)); replace HK := am (KeepBut.trans (zh HK) hk (.inl rfl)); replace HB := am (hb); replace HI0 := am (hi); (try clear hb); (try clear hb2); (try clear hk); (try clear hi)))
 replace HO456 := am (Kd.R_drew HO456.out)
 replace HO459 := am (Kd.R_drew HO459.out)
 replace HO462 := am (Kd.S_drew HO462.out)
 replace BK451 := am (blk_drew BK451.out)
 replace BK464 := am (blk_drew BK464.out)
 replace HI0 := am (IsS93.drew HI0.out)
 replace HK := am (keep_drew HK.out)
 replace HB := am (below_drew1 HB.out)
 have p474 : 0 ≤ (t472 : Int) := of_decide_eq_true zl
 have q474 : t472 < (t460.length : Int) := of_decide_eq_true zl
 obtain ⟨ad474, A474_1, c474_1, e474, hx474_0, hx474_1, hl474_1, hi474_1⟩ := at_T38 (Kd.S_reads' HO462.out).2.2 t472 p474 q474
 cases e474
 obtain ⟨ce474, hce474, hMe474, hcc474⟩ := Kd.S_get HO462.out z38 t472 p474 (by first | exact q474 | exact of_decide_eq_true zl | (have e_ := (Kd.S_reads' HO462.out).1; omega))
 obtain ⟨ve474_1, rfl, ge474_1⟩ := k38_openM hMe474
 have hv474_1 := hcc474 1 _ rfl
 rw [add_field _ _ 1 (by omega)] at hv474_1
 replace hv474_1 := Option.some.inj (hv474_1.symm.trans hx474_1)
 rw [hv474_1] at ge474_1
 have HL474_1 := am (show Kd.R (Kd.int .i64) 3 _ _ _ _ ((rd_T38 t460 t472).f1) from ge474_1)
 clear hv474_1 ge474_1
 have HX474_1 := am hx474_1
 clear hcc474 hce474
 have HR474_1 := am hi474_1
 have HC474_1 := am hl474_1
 clear hi474_1 hl474_1
 replace p474 := eq_true p474
 replace q474 := eq_true q474
 refine start_ (n := 10) (S := fun w' => w'.cell? ⟨gb464, 0, none⟩ = some (.slice Ao41 t457.length co41) ∧ w'.cell? ⟨gb464, 1, none⟩ = some (.slice (some ad474) t460.length co45) ∧ w'.cell? (ad474.add ((t472).toNat * 2)) = some (.string ((rd_T38 t460 t472).f0)) ∧ w'.cell? ⟨(ad474.add ((t472).toNat * 2)).block, (ad474.add ((t472).toNat * 2)).off + 1, none⟩ = some (.slice A474_1 ((rd_T38 t460 t472).f1).length c474_1)) (ds := [9]) (bs 10 0) (by kernel_rfl) rfl rfl ⟨ce0 BK464, ce1 BK464, hx474_0, hx474_1⟩ (fun hHeld => ?_); refine with_tabW spec_l71Pool.tab8 spec_l71Pool.bits8 (fun HT_ HW_ => ?_)
 generalize w48.drew = w49 at HO456 HO459 HO462 BK451 BK464 HI0 HK HB HL474_1 HR474_1 HX474_1 hx474_0 hx474_1 hHeld ⊢
 refine pu 0 40 10 1 rfl rfl ?_
 refine pu 2 42 10 5 rfl rfl ?_
 refine pu 6 46 10 69 rfl rfl ?_
 refine ta4 1 41 10 71 rfl rfl hHeld ?_
 refine pu 3 43 10 79 rfl rfl ?_
 refine pu 4 44 10 95 rfl rfl ?_
 refine ta4 5 45 10 127 rfl rfl hHeld ?_
 refine oz 7 10 255 rfl rfl (fun K hK => ?_)
 refine gs Try.func51 #[.pointer (some ⟨g, 0, none⟩), .int .i64 10] rfl rfl ?_
 with_reducible refine (spec_l6Rd_pick.calls k g s0_0 t473 10 t475 t476 w0 _ ?side1 ?side2 A34.out).mono ?_
 (case side1 => exact zi HI0)
 (case side2 => exact zb HB)
 rintro e w50 ⟨rfl, hi, hb, hk⟩
 have HS2_ := keep_cell hk (hHeld.2.2.1) (by first | (rw [add_block]; exact Kd.own_blk (IsS93.own_neS HI0.out HO462.out (by decide))) | (show (Addr.add _ _).block ≠ _; rw [add_block]; exact Kd.own_blk (IsS93.own_neS HI0.out HO462.out (by decide))) | exact Kd.own_blk (IsS93.own_neS HI0.out HO462.out (by decide)))
 have HS3_ := keep_cell hk (hHeld.2.2.2) (by first | (rw [add_block]; exact Kd.own_blk (IsS93.own_neS HI0.out HO462.out (by decide))) | (show (Addr.add _ _).block ≠ _; rw [add_block]; exact Kd.own_blk (IsS93.own_neS HI0.out HO462.out (by decide))) | exact Kd.own_blk (IsS93.own_neS HI0.out HO462.out (by decide)))
 refine ⟨_, rfl, ?_⟩
 replace BK451 := am (KeepBut.blk hk (zk BK451) NB451_0.out (by simp))
 replace HO456 := am (Kd.R_mono (Kd.R_keep (IsS93.apart (zi HI0) (zr HO456) (by decide)) hk (fun _ h => h.2)) (fun _ h => h.1))
 replace HO459 := am (Kd.R_mono (Kd.R_keep (IsS93.apart (zi HI0) (zr HO459) (by decide)) hk (fun _ h => h.2)) (fun _ h => h.1))
 replace BK464 := am (KeepBut.blk hk (zk BK464) NB464_0.out (by simp))
 replace HL474_1 := am (Kd.R_mono (Kd.R_keep (IsS93.apart (zi HI0) (zr HL474_1) (by decide)) hk (fun _ h => h.2)) (fun _ h => h.1))
 replace HX474_1 := am (keep_cell hk HX474_1.out (by first | (rw [add_block]; exact Kd.own_blk (IsS93.own_neS HI0.out HO462.out (by decide))) | (show (Addr.add _ _).block ≠ _; rw [add_block]; exact Kd.own_blk (IsS93.own_neS HI0.out HO462.out (by decide))) | exact Kd.own_blk (IsS93.own_neS HI0.out HO462.out (by decide)) | (dsimp only; exact Kd.own_blk (IsS93.own_neS HI0.out HO462.out (by decide)))))
 replace HO462 := am (Kd.S_mono (Kd.S_keep (IsS93.apartS (zi HI0) (zs HO462) (by decide)) hk (fun _ h => h.2)) (fun _ h => h.1))
 replace HK := am (KeepBut.trans (zh HK) hk (.inl rfl))
 replace HB := am (hb)
 replace HI0 := am (hi)
 (try clear hb)
 (try clear hb2)
 (try clear hk)
 (try clear hi)
 have p36 : 0 ≤ (0 : Int) := (by omega)
 have q36 : (0 : Int) < ((((rd_T38 t460 t472).f1).length : Int) : Int) := of_decide_eq_true zl
 have qi36 : (0 < ((rd_T38 t460 t472).f1).length) = True := eq_true (by omega)
 obtain ⟨go36, co36, eo36, gb36, gl36, cl36, HG36⟩ := Kd.R_form HL474_1.out (by omega)
 (first | cases eo36 | (injection eo36 with ea_ en_ ec_; (first | subst ea_ | (injection ea_ with ea_; subst ea_)); subst ec_; clear en_))
 have GB36 := am gb36
 have GG36 := am HG36
 clear gb36 gl36 HG36
 obtain ⟨hx36_0, hf36_0⟩ := Kd.R_celln 0 HL474_1.out (0 : Int) p36 q36
 (try rw [show ((0 : Int)).toNat = 0 from rfl] at hx36_0)
 (try simp only [Nat.reduceMul, Nat.zero_mul, Nat.zero_add, Nat.reduceAdd] at hx36_0)
 (try rw [show ((0 : Int)).toNat = 0 from rfl] at hf36_0)
 (try simp only [Nat.reduceMul, Nat.zero_mul, Nat.zero_add, Nat.reduceAdd] at hf36_0)
 replace p36 := eq_true p36
 replace q36 := eq_true q36
 have hq51 : (t472 : Int) < (t460.length : Int) := (by have h_ : (t472 : Int) < ((t460.length : Int) : Int) := of_decide_eq_true zl; first | exact h_ | (have e_ := (Kd.S_reads' HO462.out).1; omega) | simpa only [List.length_set, List.length_set] using h_)
 obtain ⟨oki51, ce51, hcl51, hM51, hcc51, hok51, hbk51⟩ := Kd.S_borrow HO462.out z38 (t472 : Int) (of_decide_eq_true zl) (by first | exact hq51 | (have e_ := (Kd.S_reads' HO462.out).1; have h_ := hq51; omega))
 obtain ⟨ve51_1, rfl, ge51_1⟩ := k38_openM hM51
 have hv51 := hcc51 1 _ rfl
 rw [add_field _ _ 1 (by omega)] at hv51
 replace hv51 := Option.some.inj (hv51.symm.trans HX474_1.out)
 subst hv51
 clear hcc51 hcl51
 replace ge51_1 := (show Kd.R (Kd.int .i64) 3 _ _ _ _ ((rd_T38 t460 t472).f1) from ge51_1)
 have HP51 := Kd.R_putg ge51_1 (0 : Int) t475
 have HN0_go36 := am (show g ≠ go36 from by have h_ := IsS93.own_ne HI0.out HL474_1.out (by decide); intro e_; exact h_ (by rw [e_]; rfl))
 rw [← Ny477.out] at HP51
 have HS51 := hbk51 HP51.2 (fun k_ e_ => by injection e_ with e_; subst e_; exact ge51_1.1 _ rfl) (x' := (⟨(rd_T38 t460 t472).f0, y477⟩ : S38)) (k38_mkM _ _ _ (⟨(rd_T38 t460 t472).f0, y477⟩ : S38) HP51.1)
 rw [← Ny479.out] at HS51
 have HQ51 := am HS51
 clear HP51 HS51 hbk51 hok51
 refine hK.out _ _ ⟨ce0 BK464, ce1 BK464, HS2_, HS3_⟩ (fun hHeld => ?_)
 clear hK K
 refine norm_ (a' := ?_) ?_ ?_
 rotate_left
 · show Act.put _ (some 47) _ = _
   simp only [Act.put, List.setIfInBounds_toArray, List.set_cons_zero, List.set_cons_succ, i64_w, i32_w]
   rfl
 refine pu 8 48 10 511 rfl rfl ?_
 refine la 9 10 1023 rfl rfl (fun K hK => ?_)
 refine skip_ (w1 := ?_) (by rfl) rfl ?_ ?_
 rotate_left
 · go_simp
   rfl
 refine hK.out _ _ ?_
 clear hK K
 refine done_ (done_of HT_.out (by kernel_rfl)) ?_
 have n0_ : Aside0 (Kd.R k103 103 (w50.setCell ⟨go36, 0, none⟩ (.int .i64 t475)) w.heap.size (fun _ => True) v455 t454) := ⟨by (with_reducible repeat (first | apply Kd.R_alloc | apply Kd.R_drewN | apply Kd.R_drew)); exact Kd.R_mono (Kd.R_far (p := ⟨go36, 0, none⟩) (Kd.R_types HO456.out GG36.out (by decide)) (fun _ hk => hk.2) (.int .i64 t475)) (fun _ hk => trivial)⟩
 have n1_ : Aside0 (Kd.R k55 55 (w50.setCell ⟨go36, 0, none⟩ (.int .i64 t475)) w.heap.size (fun _ => True) (.slice Ao41 t457.length co41) t457) := ⟨by (with_reducible repeat (first | apply Kd.R_alloc | apply Kd.R_drewN | apply Kd.R_drew)); exact Kd.R_mono (Kd.R_far (p := ⟨go36, 0, none⟩) (Kd.R_types HO459.out GG36.out (by decide)) (fun _ hk => hk.2) (.int .i64 t475)) (fun _ hk => trivial)⟩
 have n2_ : Aside0 (Kd.S k38 38 (w50.setCell ⟨go36, 0, none⟩ (.int .i64 t475)) w.heap.size (fun _ => True) (.slice (some ad474) t460.length co45) y479) := ⟨zs HQ51⟩
 have n3_ : Aside0 ((w50.setCell ⟨go36, 0, none⟩ (.int .i64 t475)).heap[gb451]? = some (.cells #[.slice none 0 0, .slice none 0 0] 31 (0, 0))) := ⟨by (with_reducible repeat (first | refine blk_drewN ?_ _ | refine blk_drew ?_ | refine blk_alloc ?_ _)); refine blk_far ?_ (by have h_ := Kd.R_ne HL474_1.out BK451.out (by decide); intro e_; exact h_ (by rw [e_]; rfl)) _; (with_reducible repeat (first | refine blk_drewN ?_ _ | refine blk_drew ?_ | refine blk_alloc ?_ _)); exact BK451.out⟩
 have n4_ : Aside0 ((w50.setCell ⟨go36, 0, none⟩ (.int .i64 t475)).heap[gb464]? = some (.cells #[.slice Ao41 t457.length co41, .slice (some ad474) t460.length co45] 31 (0, 0))) := ⟨by (with_reducible repeat (first | refine blk_drewN ?_ _ | refine blk_drew ?_ | refine blk_alloc ?_ _)); refine blk_far ?_ (by have h_ := Kd.R_ne HL474_1.out BK464.out (by decide); intro e_; exact h_ (by rw [e_]; rfl)) _; (with_reducible repeat (first | refine blk_drewN ?_ _ | refine blk_drew ?_ | refine blk_alloc ?_ _)); exact BK464.out⟩
 have n5_ : Aside0 (IsS93 w0 (w50.setCell ⟨go36, 0, none⟩ (.int .i64 t475)) g s0_0 t476) := ⟨zi HI0⟩
 have n6_ : Aside0 (KeepBut w (w50.setCell ⟨go36, 0, none⟩ (.int .i64 t475)) g none) := ⟨zh HK⟩
 have n7_ : Aside0 (Below w0.heap.size w0 (w50.setCell ⟨go36, 0, none⟩ (.int .i64 t475))) := ⟨by repeat (first | (with_reducible first | exact HB.out | apply below_alloc | apply pw_below_drewN | apply below_drew1 | refine below_set ?_ (Nat.le_trans HL.out GB36.out) | refine below_set ?_ (IsS93.ge HI0.out) | refine below_set ?_ GE451.out | refine below_set ?_ GE464.out) | exact HB.out)⟩
 (try clear HO456)
 (try clear HO459)
 (try clear HO462)
 (try clear BK451)
 (try clear BK464)
 (try clear HI0)
 (try clear HK)
 (try clear HB)
 generalize (w50.setCell ⟨go36, 0, none⟩ (.int .i64 t475)) = w53 at n0_ n1_ n2_ n3_ n4_ n5_ n6_ n7_ ⊢
 have HO456 := n0_
 have HO459 := n1_
 have HO462 := n2_
 have BK451 := n3_
 have BK464 := n4_
 have HI0 := n5_
 have HK := n6_
 have HB := n7_
 clear n0_ n1_ n2_ n3_ n4_ n5_ n6_ n7_
 have hcz54_0 := ce0 BK464
 have hcz54_1 := ce1 BK464
 have hfz54_0 := bfz BK464 0
 have hfz54_1 := bfz BK464 1
 have hnb55 := NB451_0.out
 have hnc55 := NB0_451.out
 have hcz56_0 := ce0 BK451
 have hcz56_1 := ce1 BK451
 have hfz56_0 := bfz BK451 0
 have hfz56_1 := bfz BK451 1
 try go_wp2
 refine bodyPost_ret (results_cell_row rfl _ _ gb451 31 #[.slice Ao41 t457.length co41, .slice (some ad474) t460.length co45] (0, 0) _ rfl (zp BK451) Try.underlying31 rfl (by kernel_rfl)) rfl ?_
 exact ⟨_, _, zw, by (with_reducible repeat (first | apply Kd.R_alloc | apply Kd.R_drewN | apply Kd.R_drew)); exact Kd.R_mono (Kd.R_far (p := ⟨gb451, 1, none⟩) (Kd.R_far (p := ⟨gb451, 0, none⟩) (Kd.R_types HO459.out BK451.out (by decide)) (fun _ hk => hk.2) (.slice Ao41 t457.length co41)) (fun _ hk => hk.2) (.slice (some ad474) t460.length co45)) (fun _ hk => trivial), by (with_reducible repeat (first | apply Kd.S_alloc | apply Kd.S_drewN | apply Kd.S_drew)); exact Kd.S_mono (Kd.S_far (p := ⟨gb451, 1, none⟩) (Kd.S_far (p := ⟨gb451, 0, none⟩) (Kd.S_types HO462.out BK451.out (by decide)) (fun _ hk => hk.2) (.slice Ao41 t457.length co41)) (fun _ hk => hk.2) (.slice (some ad474) t460.length co45)) (fun _ hk => trivial), (zi HI0), (zb HB), (zh HK)⟩
end Go.Proofs.Ytooamacekmjpaaa.PFnPoolOnce
