/- The walk: each function that the law comes to as a plain Lean function, and a proof that the Go code answers so. Written by this session's program over the kit's printer. -/
import Derived.Test.YtooamacekmjpaaaZ
import Derived.Test.YtooamacekmjpaaaQFnVolCount0
import Derived.Test.YtooamacekmjpaaaQFnVolCount1
import Derived.Test.YtooamacekmjpaaaQFnVolCount9
namespace Go.Proofs.Ytooamacekmjpaaa.PFnVolCount
open Go.RowKit Go.Proofs.YtooamacekmjpaaaW.PrintWords Go.Proofs.YtooamacekmjpaaaW.PrintLast Go.Proofs.YtooamacekmjpaaaW.PrintMore
attribute [local go_sem] max2_int min2_int max_two min_two max_three min_three max_four min_four   -- for this text's walks alone
set_option linter.unusedVariables false
set_option linter.unusedSimpArgs false
/-! ### spec_l71Pool: function 50 -/
def spec_l71Pool.f (k : Nat) (s0_0 : List Int) (s0_1 : Int) : Option ((List (S55)) × (List (S38)) × Int) := (spec_l6Rd_pick.f k s0_0 s0_1 22).bind fun bt412 => ((spec_l71Ops.f k s0_0 bt412.2 (wrap64 (3 + bt412.1))).bind fun bt414 => ((spec_l6Rd_pick.f k s0_0 bt414.2.2.2 30).bind fun bt425 => (if bt425.1 = 0 then ((spec_l6Rd_pick.f k s0_0 bt425.2 (bt414.2.1.length : Int)).bind fun bt427 => ((spec_l6Rd_pick.f k s0_0 bt427.2 4).bind fun bt429 => (if 0 ≤ bt427.1 then (if bt427.1 < (bt414.2.1.length : Int) then (some ((bt414.2.1.set (bt427.1 : Int).toNat (⟨(rd_T55 bt414.2.1 bt427.1).f0, bt429.1⟩ : S55)), bt414.2.2.1, bt429.2)) else (none)) else (none)))) else (if bt425.1 = 1 then (if (bt414.2.2.1.length : Int) > 0 then ((spec_l6Rd_pick.f k s0_0 bt425.2 (bt414.2.2.1.length : Int)).bind fun bt432 => (if 0 ≤ bt432.1 then (if bt432.1 < (bt414.2.2.1.length : Int) then ((spec_l6Rd_pick.f k s0_0 bt432.2 10).bind fun bt435 => (if 0 < (((rd_T38 bt414.2.2.1 bt432.1).f1).length : Int) then (some (bt414.2.1, (bt414.2.2.1.set (bt432.1 : Int).toNat (⟨(rd_T38 bt414.2.2.1 bt432.1).f0, (((rd_T38 bt414.2.2.1 bt432.1).f1).set (0 : Int).toNat bt435.1)⟩ : S38)), bt435.2)) else (none))) else (none)) else (none))) else (some (bt414.2.1, bt414.2.2.1, bt425.2))) else (if bt425.1 = 2 then (if bt414.2.2.1.length < 3518437208883 then (some (bt414.2.1, (bt414.2.2.1 ++ [(⟨(⟨#[65]⟩ : ByteArray), (([0] : List Int))⟩ : S38)]), bt425.2)) else (none)) else (some (bt414.2.1, bt414.2.2.1, bt425.2)))))))
theorem spec_l71Pool.mono : ∀ a0 a1 k, LeO (spec_l71Pool.f k a0 a1) (spec_l71Pool.f (k + 1) a0 a1) := by
 intro a0 a1 k
 unfold spec_l71Pool.f
 exact mo2 @spec_l6Rd_pick.mono @spec_l71Ops.mono
def spec_l71Pool.T4 : Bool × List (List Nat × List Nat) := (true, [([], []), ([0], [0]), ([], []), ([], []), ([3], [3]), ([4], [4]), ([2, 5], [2, 5]), ([], []), ([7, 6], [7]), ([1, 6, 0, 1, 2, 3, 4, 5, 6, 7, 8], [1, 6]), ([9, 0, 1, 2, 3, 4, 5, 6, 7, 8], [9]), ([10, 8, 8, 0, 1, 2, 3, 4, 5, 6, 7, 8], [8, 10])])
def spec_l71Pool.B4 : List Nat := [0, 1, 0, 0, 8, 24, 60, 0, 252, 511, 1023, 2047]
theorem spec_l71Pool.tab4 : rtab .any (opsOf Try.f50 4) = spec_l71Pool.T4 := by kernel_rfl
theorem spec_l71Pool.bits4 : waitsOk spec_l71Pool.T4.2 spec_l71Pool.B4 = true := by kernel_rfl
def spec_l71Pool.T8 : Bool × List (List Nat × List Nat) := (true, [([], []), ([0], [0]), ([], []), ([1, 2], [1, 2]), ([3], [3]), ([4], [4]), ([], []), ([6], [6]), ([5, 0, 1, 2, 3, 4, 5, 6, 7], [5]), ([8, 7, 7, 0, 1, 2, 3, 4, 5, 6, 7], [7, 8])])
def spec_l71Pool.B8 : List Nat := [0, 1, 0, 7, 15, 31, 0, 64, 255, 511]
theorem spec_l71Pool.tab8 : rtab .any (opsOf Try.f50 8) = spec_l71Pool.T8 := by kernel_rfl
theorem spec_l71Pool.bits8 : waitsOk spec_l71Pool.T8.2 spec_l71Pool.B8 = true := by kernel_rfl
set_option maxHeartbeats 8000000 in
set_option maxRecDepth 100000 in
theorem spec_l71Pool.calls (k : Nat) (g : Nat) (s0_0 : List Int) (s0_1 : Int) (r1 : List (S55)) (r2 : List (S38)) (r3 : Int) (w0 w : World) (hI : IsS93 w0 w g s0_0 s0_1) (hB : Below w0.heap.size w0 w) (h : spec_l71Pool.f k s0_0 s0_1 = some (r1, r2, r3)) :
 Calls Try.prog 50 #[.pointer (some ⟨g, 0, none⟩)] w fun e w' => ∃ v0_ v1_ : Value, e = .returned (.agg #[v0_, v1_]) ∧ Kd.R k55 55 w' w.heap.size (fun _ => True) v0_ r1 ∧ Kd.S k38 38 w' w.heap.size (fun _ => True) v1_ r2 ∧ IsS93 w0 w' g s0_0 r3 ∧ Below w0.heap.size w0 w' ∧ KeepBut w w' g none := by
 have hu31 := Try.underlying31
 have hu38 := Try.underlying38
 have HI0 := am hI
 have HK := am (KeepBut.refl w g none)
 have HL := am hB.size
 clear hI
 have HW0 := am hB.size
 have HB := am hB
 clear hB
 have H : ((spec_l6Rd_pick.f k s0_0 s0_1 22).bind fun bt412 => ((spec_l71Ops.f k s0_0 bt412.2 (wrap64 (3 + bt412.1))).bind fun bt414 => ((spec_l6Rd_pick.f k s0_0 bt414.2.2.2 30).bind fun bt425 => (if bt425.1 = 0 then ((spec_l6Rd_pick.f k s0_0 bt425.2 (bt414.2.1.length : Int)).bind fun bt427 => ((spec_l6Rd_pick.f k s0_0 bt427.2 4).bind fun bt429 => (if 0 ≤ bt427.1 then (if bt427.1 < (bt414.2.1.length : Int) then (some ((bt414.2.1.set (bt427.1 : Int).toNat (⟨(rd_T55 bt414.2.1 bt427.1).f0, bt429.1⟩ : S55)), bt414.2.2.1, bt429.2)) else (none)) else (none)))) else (if bt425.1 = 1 then (if (bt414.2.2.1.length : Int) > 0 then ((spec_l6Rd_pick.f k s0_0 bt425.2 (bt414.2.2.1.length : Int)).bind fun bt432 => (if 0 ≤ bt432.1 then (if bt432.1 < (bt414.2.2.1.length : Int) then ((spec_l6Rd_pick.f k s0_0 bt432.2 10).bind fun bt435 => (if 0 < (((rd_T38 bt414.2.2.1 bt432.1).f1).length : Int) then (some (bt414.2.1, (bt414.2.2.1.set (bt432.1 : Int).toNat (⟨(rd_T38 bt414.2.2.1 bt432.1).f0, (((rd_T38 bt414.2.2.1 bt432.1).f1).set (0 : Int).toNat bt435.1)⟩ : S38)), bt435.2)) else (none))) else (none)) else (none))) else (some (bt414.2.1, bt414.2.2.1, bt425.2))) else (if bt425.1 = 2 then (if bt414.2.2.1.length < 3518437208883 then (some (bt414.2.1, (bt414.2.2.1 ++ [(⟨(⟨#[65]⟩ : ByteArray), (([0] : List Int))⟩ : S38)]), bt425.2)) else (none)) else (some (bt414.2.1, bt414.2.2.1, bt425.2)))))))) = some (r1, r2, r3) := h
 clear h
 replace H := obs H
 obtain ⟨⟨t412, t413⟩, A20, H⟩ := H
 replace H : ((spec_l71Ops.f k s0_0 t413 (wrap64 (3 + t412))).bind fun bt414 => ((spec_l6Rd_pick.f k s0_0 bt414.2.2.2 30).bind fun bt425 => (if bt425.1 = 0 then ((spec_l6Rd_pick.f k s0_0 bt425.2 (bt414.2.1.length : Int)).bind fun bt427 => ((spec_l6Rd_pick.f k s0_0 bt427.2 4).bind fun bt429 => (if 0 ≤ bt427.1 then (if bt427.1 < (bt414.2.1.length : Int) then (some ((bt414.2.1.set (bt427.1 : Int).toNat (⟨(rd_T55 bt414.2.1 bt427.1).f0, bt429.1⟩ : S55)), bt414.2.2.1, bt429.2)) else (none)) else (none)))) else (if bt425.1 = 1 then (if (bt414.2.2.1.length : Int) > 0 then ((spec_l6Rd_pick.f k s0_0 bt425.2 (bt414.2.2.1.length : Int)).bind fun bt432 => (if 0 ≤ bt432.1 then (if bt432.1 < (bt414.2.2.1.length : Int) then ((spec_l6Rd_pick.f k s0_0 bt432.2 10).bind fun bt435 => (if 0 < (((rd_T38 bt414.2.2.1 bt432.1).f1).length : Int) then (some (bt414.2.1, (bt414.2.2.1.set (bt432.1 : Int).toNat (⟨(rd_T38 bt414.2.2.1 bt432.1).f0, (((rd_T38 bt414.2.2.1 bt432.1).f1).set (0 : Int).toNat bt435.1)⟩ : S38)), bt435.2)) else (none))) else (none)) else (none))) else (some (bt414.2.1, bt414.2.2.1, bt425.2))) else (if bt425.1 = 2 then (if bt414.2.2.1.length < 3518437208883 then (some (bt414.2.1, (bt414.2.2.1 ++ [(⟨(⟨#[65]⟩ : ByteArray), (([0] : List Int))⟩ : S38)]), bt425.2)) else (none)) else (some (bt414.2.1, bt414.2.2.1, bt425.2))))))) = some (r1, r2, r3) := H
 have A2 := am A20
 clear A20
 replace H := obs H
 obtain ⟨⟨t414, t417, t420, t423⟩, A30, H⟩ := H
 replace H : ((spec_l6Rd_pick.f k s0_0 t423 30).bind fun bt425 => (if bt425.1 = 0 then ((spec_l6Rd_pick.f k s0_0 bt425.2 (t417.length : Int)).bind fun bt427 => ((spec_l6Rd_pick.f k s0_0 bt427.2 4).bind fun bt429 => (if 0 ≤ bt427.1 then (if bt427.1 < (t417.length : Int) then (some ((t417.set (bt427.1 : Int).toNat (⟨(rd_T55 t417 bt427.1).f0, bt429.1⟩ : S55)), t420, bt429.2)) else (none)) else (none)))) else (if bt425.1 = 1 then (if (t420.length : Int) > 0 then ((spec_l6Rd_pick.f k s0_0 bt425.2 (t420.length : Int)).bind fun bt432 => (if 0 ≤ bt432.1 then (if bt432.1 < (t420.length : Int) then ((spec_l6Rd_pick.f k s0_0 bt432.2 10).bind fun bt435 => (if 0 < (((rd_T38 t420 bt432.1).f1).length : Int) then (some (t417, (t420.set (bt432.1 : Int).toNat (⟨(rd_T38 t420 bt432.1).f0, (((rd_T38 t420 bt432.1).f1).set (0 : Int).toNat bt435.1)⟩ : S38)), bt435.2)) else (none))) else (none)) else (none))) else (some (t417, t420, bt425.2))) else (if bt425.1 = 2 then (if t420.length < 3518437208883 then (some (t417, (t420 ++ [(⟨(⟨#[65]⟩ : ByteArray), (([0] : List Int))⟩ : S38)]), bt425.2)) else (none)) else (some (t417, t420, bt425.2)))))) = some (r1, r2, r3) := H
 have A3 := am A30
 clear A30
 replace H := obs H
 obtain ⟨⟨t425, t426⟩, A40, H⟩ := H
 replace H : (if t425 = 0 then ((spec_l6Rd_pick.f k s0_0 t426 (t417.length : Int)).bind fun bt427 => ((spec_l6Rd_pick.f k s0_0 bt427.2 4).bind fun bt429 => (if 0 ≤ bt427.1 then (if bt427.1 < (t417.length : Int) then (some ((t417.set (bt427.1 : Int).toNat (⟨(rd_T55 t417 bt427.1).f0, bt429.1⟩ : S55)), t420, bt429.2)) else (none)) else (none)))) else (if t425 = 1 then (if (t420.length : Int) > 0 then ((spec_l6Rd_pick.f k s0_0 t426 (t420.length : Int)).bind fun bt432 => (if 0 ≤ bt432.1 then (if bt432.1 < (t420.length : Int) then ((spec_l6Rd_pick.f k s0_0 bt432.2 10).bind fun bt435 => (if 0 < (((rd_T38 t420 bt432.1).f1).length : Int) then (some (t417, (t420.set (bt432.1 : Int).toNat (⟨(rd_T38 t420 bt432.1).f0, (((rd_T38 t420 bt432.1).f1).set (0 : Int).toNat bt435.1)⟩ : S38)), bt435.2)) else (none))) else (none)) else (none))) else (some (t417, t420, t426))) else (if t425 = 2 then (if t420.length < 3518437208883 then (some (t417, (t420 ++ [(⟨(⟨#[65]⟩ : ByteArray), (([0] : List Int))⟩ : S38)]), t426)) else (none)) else (some (t417, t420, t426))))) = some (r1, r2, r3) := H
 have A4 := am A40
 clear A40
 by_cases c5 : t425 = 0
 · rw [if_pos c5] at H
   have c5b0 : (t425 == 0) = true := beq_iff_eq.mpr c5
   have c5b1 : (t425 != 0) = false := bne_eq_false_iff_eq.mpr c5
   clear c5
   replace H := obs H
   obtain ⟨⟨t427, t428⟩, A60, H⟩ := H
   replace H : ((spec_l6Rd_pick.f k s0_0 t428 4).bind fun bt429 => (if 0 ≤ t427 then (if t427 < (t417.length : Int) then (some ((t417.set (t427 : Int).toNat (⟨(rd_T55 t417 t427).f0, bt429.1⟩ : S55)), t420, bt429.2)) else (none)) else (none))) = some (r1, r2, r3) := H
   have A6 := am A60
   clear A60
   replace H := obs H
   obtain ⟨⟨t429, t430⟩, A70, H⟩ := H
   replace H : (if 0 ≤ t427 then (if t427 < (t417.length : Int) then (some ((t417.set (t427 : Int).toNat (⟨(rd_T55 t417 t427).f0, t429⟩ : S55)), t420, t430)) else (none)) else (none)) = some (r1, r2, r3) := H
   have A7 := am A70
   clear A70
   by_cases c8 : 0 ≤ t427
   rotate_left
   · rw [if_neg c8] at H
     exact absurd H (by simp)
   rw [if_pos c8] at H
   have c8b0 : decide (0 ≤ t427) = true := decide_eq_true c8
   clear c8
   by_cases c9 : t427 < (t417.length : Int)
   rotate_left
   · rw [if_neg c9] at H
     exact absurd H (by simp)
   rw [if_pos c9] at H
   have c9b0 : decide (t427 < (t417.length : Int)) = true := decide_eq_true c9
   clear c9
   obtain ⟨y431, hy431⟩ : ∃ y_ : List (S55), y_ = (t417.set (t427 : Int).toNat (⟨(rd_T55 t417 t427).f0, t429⟩ : S55)) := ⟨_, rfl⟩
   replace H : (some (y431, t420, t430)) = some (r1, r2, r3) := hY hy431 H
   have Ny431 := am hy431
   clear hy431
   simp only [Option.some.injEq, Prod.mk.injEq] at H
   obtain ⟨rfl, rfl, rfl⟩ := H
   go_enter Try.func50, Try.ntmps50
   try go_wp2_with (first | ((with_reducible refine gate_dst (N := 2) rfl ?_); refine bx 31 #[.slice none 0 0, .slice none 0 0] ?_; intro gb411 hg w11 hbox hb; replace HB := am (below_step (zb HB) hb); have BK411 := am (hbox); have GW411 := am (zm hg (zh HK)); have GE411 := am ((Nat.le_trans HW0.out (zm hg (zh HK)))); replace HK := am (KeepBut.trans (zh HK) (KeepBut.of_below hb g none) (.inl rfl)); have NB0_411 := am (ix hg (zi HI0)); have NB411_0 := am (iy hg (zi HI0)); replace HI0 := am (IsS93.below (zi HI0) hb); clear hb hbox hg) | ((with_reducible refine gate_callee (f := 51) rfl ?_); refine gl Try.func51 9 #[.pointer (some ⟨g, 0, none⟩), .int .i64 22] rfl rfl rfl ?_; (with_reducible refine (spec_l6Rd_pick.calls k g s0_0 s0_1 22 t412 t413 w0 _ ?side1 ?side2 A2.out).mono ?_); (case side1 => exact zi HI0); (case side2 => exact zb HB); rintro e w12 ⟨rfl, hi, hb, hk⟩; refine ⟨_, rfl, ?_⟩; replace BK411 := am (KeepBut.blk hk (zk BK411) NB411_0.out (by simp)); replace HK := am (KeepBut.trans (zh HK) hk (.inl rfl)); replace HB := am (hb); replace HI0 := am (hi); (try clear hb); (try clear hb2); (try clear hk); (try clear hi)) | ((with_reducible refine gate_callee (f := 73) rfl ?_); refine gl Try.func73 11 #[.pointer (some ⟨g, 0, none⟩), .int .i64 (wrap64 (3 + t412))] rfl rfl rfl ?_; (with_reducible refine (spec_l71Ops.calls k g s0_0 t413 (wrap64 (3 + t412)) t414 t417 t420 t423 w0 _ ?side1 ?side2 A3.out).mono ?_); (case side1 => exact zi HI0); (case side2 => exact zb HB); rintro e w13 ⟨v415, v418, v421, rfl, ho0, ho1, ho2, hi, hb, hk⟩; refine ⟨_, rfl, ?_⟩; replace BK411 := am (KeepBut.blk hk (zk BK411) NB411_0.out (by simp)); have HO416 := am (Kd.R_lower ho0 (keep_size (zh HK))); have HO419 := am (Kd.R_lower ho1 (keep_size (zh HK))); have HO422 := am (Kd.S_lower ho2 (keep_size (zh HK))); replace HK := am (KeepBut.trans (zh HK) hk (.inl rfl)); replace HB := am (hb); replace HI0 := am (hi); (try clear hb); (try clear hb2); (try clear hk); (try clear hi); (try clear ho0); (try clear ho1); (try clear ho2)) | ((with_reducible refine gate_dst (N := 4) rfl ?_); refine bx 31 #[.slice none 0 0, .slice none 0 0] ?_; intro gb424 hg w14 hbox hb; replace HO416 := am (Kd.R_below (zr HO416) hb); replace HO419 := am (Kd.R_below (zr HO419) hb); replace HO422 := am (Kd.S_below (zs HO422) hb); replace HB := am (below_step (zb HB) hb); have BK424 := am (hbox); have GW424 := am (zm hg (zh HK)); have GE424 := am ((Nat.le_trans HW0.out (zm hg (zh HK)))); replace HK := am (KeepBut.trans (zh HK) (KeepBut.of_below hb g none) (.inl rfl)); have NB411_424 := am (zx hg (zk BK411)); have NB424_411 := am (zy hg (zk BK411)); replace BK411 := am (blk_below (zk BK411) hb); have NB0_424 := am (ix hg (zi HI0)); have NB424_0 := am (iy hg (zi HI0)); replace HI0 := am (IsS93.below (zi HI0) hb); clear hb hbox hg; obtain ⟨Ao15, co15, eo15⟩ := Kd.R_slice HO419.out; subst eo15; have hnb16 := NB424_411.out; have hnc16 := NB411_424.out; have hnb17 := NB424_0.out; have hnc17 := NB0_424.out; have hcz18_0 := ce0 BK424; have hcz18_1 := ce1 BK424; have hfz18_0 := bfz BK424 0; have hfz18_1 := bfz BK424 1; obtain ⟨Ao19, co19, eo19⟩ := Kd.S_slice HO422.out; subst eo19) | ((with_reducible refine gate_callee (f := 51) rfl ?_); refine gl Try.func51 15 #[.pointer (some ⟨g, 0, none⟩), .int .i64 30] rfl rfl rfl ?_; (with_reducible refine (spec_l6Rd_pick.calls k g s0_0 t423 30 t425 t426 w0 _ ?side1 ?side2 A4.out).mono ?_); (case side1 => exact zi HI0); (case side2 => exact zb HB); rintro e w20 ⟨rfl, hi, hb, hk⟩; refine ⟨_, rfl, ?_⟩; replace BK411 := am (KeepBut.blk hk (zk BK411) NB411_0.out (by simp)); replace HO416 := am (Kd.R_mono (Kd.R_keep (IsS93.apart (zi HI0) (rf HO416 BK424) (by decide)) hk (fun _ h => h.2)) (fun _ h => h.1)); replace HO419 := am (Kd.R_mono (Kd.R_keep (IsS93.apart (zi HI0) (rf HO419 BK424) (by decide)) hk (fun _ h => h.2)) (fun _ h => h.1)); replace HO422 := am (Kd.S_mono (Kd.S_keep (IsS93.apartS (zi HI0) (sf HO422 BK424) (by decide)) hk (fun _ h => h.2)) (fun _ h => h.1)); replace BK424 := am (KeepBut.blk hk (g' := gb424) (o := .cells #[.slice Ao15 t417.length co15, .slice Ao19 t420.length co19] 31 (0, 0)) (zp BK424) NB424_0.out (by simp)); replace HK := am (KeepBut.trans (zh HK) hk (.inl rfl)); replace HB := am (hb); replace HI0 := am (hi); (try clear hb); (try clear hb2); (try clear hk); (try clear hi)))
   replace HO416 := am (Kd.R_drew HO416.out)
   replace HO419 := am (Kd.R_drew HO419.out)
   replace HO422 := am (Kd.S_drew HO422.out)
   replace BK411 := am (blk_drew BK411.out)
   replace BK424 := am (blk_drew BK424.out)
   replace HI0 := am (IsS93.drew HI0.out)
   replace HK := am (keep_drew HK.out)
   replace HB := am (below_drew1 HB.out)
   refine start_ (n := 12) (S := fun w' => w'.cell? ⟨gb424, 0, none⟩ = some (.slice Ao15 t417.length co15) ∧ w'.cell? ⟨gb424, 1, none⟩ = some (.slice Ao19 t420.length co19)) (ds := [11]) (bs 12 0) (by kernel_rfl) rfl rfl ⟨ce0 BK424, ce1 BK424⟩ (fun hHeld => ?_); refine with_tabW spec_l71Pool.tab4 spec_l71Pool.bits4 (fun HT_ HW_ => ?_)
   generalize w20.drew = w21 at HO416 HO419 HO422 BK411 BK424 HI0 HK HB hHeld ⊢
   refine pu 0 18 12 1 rfl rfl ?_
   refine pu 2 20 12 5 rfl rfl ?_
   refine pu 3 21 12 13 rfl rfl ?_
   refine pu 7 25 12 141 rfl rfl ?_
   refine ta2 1 19 12 143 rfl rfl hHeld ?_
   refine ta2 4 22 12 159 rfl rfl hHeld ?_
   refine pu 5 23 12 191 rfl rfl ?_
   refine oz 6 12 255 rfl rfl (fun K hK => ?_)
   refine gs Try.func51 #[.pointer (some ⟨g, 0, none⟩), .int .i64 (t417.length : Int)] rfl rfl ?_
   with_reducible refine (spec_l6Rd_pick.calls k g s0_0 t426 (t417.length : Int) t427 t428 w0 _ ?side1 ?side2 A6.out).mono ?_
   (case side1 => exact zi HI0)
   (case side2 => exact zb HB)
   rintro e w22 ⟨rfl, hi, hb, hk⟩
   refine ⟨_, rfl, ?_⟩
   replace BK411 := am (KeepBut.blk hk (zk BK411) NB411_0.out (by simp))
   replace HO416 := am (Kd.R_mono (Kd.R_keep (IsS93.apart (zi HI0) (zr HO416) (by decide)) hk (fun _ h => h.2)) (fun _ h => h.1))
   replace HO419 := am (Kd.R_mono (Kd.R_keep (IsS93.apart (zi HI0) (zr HO419) (by decide)) hk (fun _ h => h.2)) (fun _ h => h.1))
   replace HO422 := am (Kd.S_mono (Kd.S_keep (IsS93.apartS (zi HI0) (zs HO422) (by decide)) hk (fun _ h => h.2)) (fun _ h => h.1))
   replace BK424 := am (KeepBut.blk hk (zk BK424) NB424_0.out (by simp))
   replace HK := am (KeepBut.trans (zh HK) hk (.inl rfl))
   replace HB := am (hb)
   replace HI0 := am (hi)
   (try clear hb)
   (try clear hb2)
   (try clear hk)
   (try clear hi)
   refine hK.out _ _ ⟨ce0 BK424, ce1 BK424⟩ (fun hHeld => ?_)
   clear hK K
   refine norm_ (a' := ?_) ?_ ?_
   rotate_left
   · show Act.put _ (some 24) _ = _
     simp only [Act.put, List.setIfInBounds_toArray, List.set_cons_zero, List.set_cons_succ, i64_w, i32_w]
     rfl
   refine oz 8 12 511 rfl rfl (fun K hK => ?_)
   refine gs Try.func51 #[.pointer (some ⟨g, 0, none⟩), .int .i64 4] rfl rfl ?_
   with_reducible refine (spec_l6Rd_pick.calls k g s0_0 t428 4 t429 t430 w0 _ ?side1 ?side2 A7.out).mono ?_
   (case side1 => exact zi HI0)
   (case side2 => exact zb HB)
   rintro e w23 ⟨rfl, hi, hb, hk⟩
   refine ⟨_, rfl, ?_⟩
   replace BK411 := am (KeepBut.blk hk (zk BK411) NB411_0.out (by simp))
   replace HO416 := am (Kd.R_mono (Kd.R_keep (IsS93.apart (zi HI0) (zr HO416) (by decide)) hk (fun _ h => h.2)) (fun _ h => h.1))
   replace HO419 := am (Kd.R_mono (Kd.R_keep (IsS93.apart (zi HI0) (zr HO419) (by decide)) hk (fun _ h => h.2)) (fun _ h => h.1))
   replace HO422 := am (Kd.S_mono (Kd.S_keep (IsS93.apartS (zi HI0) (zs HO422) (by decide)) hk (fun _ h => h.2)) (fun _ h => h.1))
   replace BK424 := am (KeepBut.blk hk (zk BK424) NB424_0.out (by simp))
   replace HK := am (KeepBut.trans (zh HK) hk (.inl rfl))
   replace HB := am (hb)
   replace HI0 := am (hi)
   (try clear hb)
   (try clear hb2)
   (try clear hk)
   (try clear hi)
   have p10 : 0 ≤ (t427 : Int) := of_decide_eq_true zl
   have q10 : (t427 : Int) < ((t417.length : Int) : Int) := of_decide_eq_true zl
   obtain ⟨go10, co10, eo10, gb10, gl10, cl10, HG10⟩ := Kd.R_form HO419.out (by omega)
   (first | cases eo10 | (injection eo10 with ea_ en_ ec_; (first | subst ea_ | (injection ea_ with ea_; subst ea_)); subst ec_; clear en_))
   have GB10 := am gb10
   have GG10 := am HG10
   clear gb10 gl10 HG10
   obtain ⟨ce10, hcl10, hM10, hcc10, hfr10⟩ := Kd.R_elem HO419.out z55 (t427 : Int) p10 q10
   obtain rfl := k55_openM hM10
   have hx10_0 : World.cell? _ ⟨go10, (t427 : Int).toNat * 2, none⟩ = some (.string ((rd_T55 t417 t427).f0)) := hcc10 0 _ rfl
   have hx10_1 : World.cell? _ ⟨go10, (t427 : Int).toNat * 2 + 1, none⟩ = some (.int .i64 ((rd_T55 t417 t427).f1)) := hcc10 1 _ rfl
   have hf10_0 : World.frozen? _ ⟨go10, (t427 : Int).toNat * 2, none⟩ = false := hfr10 0
   have hf10_1 : World.frozen? _ ⟨go10, (t427 : Int).toNat * 2 + 1, none⟩ = false := hfr10 1
   clear hcl10 hcc10 hfr10 hM10
   replace p10 := eq_true p10
   replace q10 := eq_true q10
   have HN0_go10 := am (show g ≠ go10 from by have h_ := IsS93.own_ne HI0.out HO419.out (by decide); intro e_; exact h_ (by rw [e_]; rfl))
   obtain ⟨ce24, hcl24, hM24, hcc24, hfr24⟩ := Kd.R_elem HO419.out z55 (t427 : Int) (of_decide_eq_true zl) (by have h_ : (t427 : Int) < ((t417.length : Int) : Int) := of_decide_eq_true zl; first | exact h_ | (have e_ := (Kd.R_reads' HO419.out).1; omega) | simpa using h_)
   obtain rfl := k55_openM hM24
   have HP24 := (Kd.R_seg HO419.out (t427 : Int) (of_decide_eq_true zl) (by have h_ : (t427 : Int) < ((t417.length : Int) : Int) := of_decide_eq_true zl; first | exact h_ | (have e_ := (Kd.R_reads' HO419.out).1; omega) | simpa using h_) (seg := [.int .i64 t429]) (j := 1) hcl24 hcc24 (show 2 ≤ 2 from by decide) (x' := (⟨(rd_T55 t417 t427).f0, t429⟩ : S55)) (k55_mkM _ _ _ (⟨(rd_T55 t417 t427).f0, t429⟩ : S55) ) (fun _ hk => hk)).1
   rw [← Ny431.out] at HP24
   have HQ24 := am HP24
   clear hcl24 hcc24 hfr24 hM24 HP24
   refine hK.out _ _ ⟨ce0 BK424, ce1 BK424⟩ (fun hHeld => ?_)
   clear hK K
   refine norm_ (a' := ?_) ?_ ?_
   rotate_left
   · show Act.put _ (some 26) _ = _
     simp only [Act.put, List.setIfInBounds_toArray, List.set_cons_zero, List.set_cons_succ, i64_w, i32_w]
     rfl
   refine pu 9 27 12 1023 rfl rfl ?_
   refine pu 10 28 12 2047 rfl rfl ?_
   refine la 11 12 4095 rfl rfl (fun K hK => ?_)
   refine skip_ (w1 := ?_) (by rfl) rfl ?_ ?_
   rotate_left
   · go_simp
     rfl
   refine hK.out _ _ ?_
   clear hK K
   refine done_ (done_of HT_.out (by kernel_rfl)) ?_
   have n0_ : Aside0 (Kd.R k103 103 (w23.setCell ⟨go10, (t427 : Int).toNat * 2 + 1, none⟩ (.int .i64 t429)) w.heap.size (fun _ => True) v415 t414) := ⟨by (with_reducible repeat (first | apply Kd.R_alloc | apply Kd.R_drewN | apply Kd.R_drew)); exact Kd.R_mono (Kd.R_far (p := ⟨go10, (t427 : Int).toNat * 2 + 1, none⟩) (Kd.R_types HO416.out GG10.out (by decide)) (fun _ hk => hk.2) (.int .i64 t429)) (fun _ hk => trivial)⟩
   have n1_ : Aside0 (Kd.R k55 55 (w23.setCell ⟨go10, (t427 : Int).toNat * 2 + 1, none⟩ (.int .i64 t429)) w.heap.size (fun _ => True) (.slice (some ⟨go10, 0, none⟩) t417.length co15) y431) := ⟨zr HQ24⟩
   have n2_ : Aside0 (Kd.S k38 38 (w23.setCell ⟨go10, (t427 : Int).toNat * 2 + 1, none⟩ (.int .i64 t429)) w.heap.size (fun _ => True) (.slice Ao19 t420.length co19) t420) := ⟨by (with_reducible repeat (first | apply Kd.S_alloc | apply Kd.S_drewN | apply Kd.S_drew)); exact Kd.S_mono (Kd.S_far (p := ⟨go10, (t427 : Int).toNat * 2 + 1, none⟩) (Kd.S_types HO422.out GG10.out (by decide)) (fun _ hk => hk.2) (.int .i64 t429)) (fun _ hk => trivial)⟩
   have n3_ : Aside0 ((w23.setCell ⟨go10, (t427 : Int).toNat * 2 + 1, none⟩ (.int .i64 t429)).heap[gb411]? = some (.cells #[.slice none 0 0, .slice none 0 0] 31 (0, 0))) := ⟨by (with_reducible repeat (first | refine blk_drewN ?_ _ | refine blk_drew ?_ | refine blk_alloc ?_ _)); refine blk_far ?_ (by have h_ := Kd.R_ne HO419.out BK411.out (by decide); intro e_; exact h_ (by rw [e_]; rfl)) _; (with_reducible repeat (first | refine blk_drewN ?_ _ | refine blk_drew ?_ | refine blk_alloc ?_ _)); exact BK411.out⟩
   have n4_ : Aside0 ((w23.setCell ⟨go10, (t427 : Int).toNat * 2 + 1, none⟩ (.int .i64 t429)).heap[gb424]? = some (.cells #[.slice (some ⟨go10, 0, none⟩) t417.length co15, .slice Ao19 t420.length co19] 31 (0, 0))) := ⟨by (with_reducible repeat (first | refine blk_drewN ?_ _ | refine blk_drew ?_ | refine blk_alloc ?_ _)); refine blk_far ?_ (by have h_ := Kd.R_ne HO419.out BK424.out (by decide); intro e_; exact h_ (by rw [e_]; rfl)) _; (with_reducible repeat (first | refine blk_drewN ?_ _ | refine blk_drew ?_ | refine blk_alloc ?_ _)); exact BK424.out⟩
   have n5_ : Aside0 (IsS93 w0 (w23.setCell ⟨go10, (t427 : Int).toNat * 2 + 1, none⟩ (.int .i64 t429)) g s0_0 t430) := ⟨zi HI0⟩
   have n6_ : Aside0 (KeepBut w (w23.setCell ⟨go10, (t427 : Int).toNat * 2 + 1, none⟩ (.int .i64 t429)) g none) := ⟨zh HK⟩
   have n7_ : Aside0 (Below w0.heap.size w0 (w23.setCell ⟨go10, (t427 : Int).toNat * 2 + 1, none⟩ (.int .i64 t429))) := ⟨by repeat (first | (with_reducible first | exact HB.out | apply below_alloc | apply pw_below_drewN | apply below_drew1 | refine below_set ?_ (Nat.le_trans HL.out GB10.out) | refine below_set ?_ (IsS93.ge HI0.out) | refine below_set ?_ GE411.out | refine below_set ?_ GE424.out) | exact HB.out)⟩
   (try clear HO416)
   (try clear HO419)
   (try clear HO422)
   (try clear BK411)
   (try clear BK424)
   (try clear HI0)
   (try clear HK)
   (try clear HB)
   generalize (w23.setCell ⟨go10, (t427 : Int).toNat * 2 + 1, none⟩ (.int .i64 t429)) = w25 at n0_ n1_ n2_ n3_ n4_ n5_ n6_ n7_ ⊢
   have HO416 := n0_
   have HO419 := n1_
   have HO422 := n2_
   have BK411 := n3_
   have BK424 := n4_
   have HI0 := n5_
   have HK := n6_
   have HB := n7_
   clear n0_ n1_ n2_ n3_ n4_ n5_ n6_ n7_
   have hcz26_0 := ce0 BK424
   have hcz26_1 := ce1 BK424
   have hfz26_0 := bfz BK424 0
   have hfz26_1 := bfz BK424 1
   have hnb27 := NB411_0.out
   have hnc27 := NB0_411.out
   have hcz28_0 := ce0 BK411
   have hcz28_1 := ce1 BK411
   have hfz28_0 := bfz BK411 0
   have hfz28_1 := bfz BK411 1
   try go_wp2
   refine bodyPost_ret (results_cell_row rfl _ _ gb411 31 #[.slice (some ⟨go10, 0, none⟩) t417.length co15, .slice Ao19 t420.length co19] (0, 0) _ rfl (zp BK411) Try.underlying31 rfl (by kernel_rfl)) rfl ?_
   exact ⟨_, _, zw, by (with_reducible repeat (first | apply Kd.R_alloc | apply Kd.R_drewN | apply Kd.R_drew)); exact Kd.R_mono (Kd.R_far (p := ⟨gb411, 1, none⟩) (Kd.R_far (p := ⟨gb411, 0, none⟩) (Kd.R_types HO419.out BK411.out (by decide)) (fun _ hk => hk.2) (.slice (some ⟨go10, 0, none⟩) t417.length co15)) (fun _ hk => hk.2) (.slice Ao19 t420.length co19)) (fun _ hk => trivial), by (with_reducible repeat (first | apply Kd.S_alloc | apply Kd.S_drewN | apply Kd.S_drew)); exact Kd.S_mono (Kd.S_far (p := ⟨gb411, 1, none⟩) (Kd.S_far (p := ⟨gb411, 0, none⟩) (Kd.S_types HO422.out BK411.out (by decide)) (fun _ hk => hk.2) (.slice (some ⟨go10, 0, none⟩) t417.length co15)) (fun _ hk => hk.2) (.slice Ao19 t420.length co19)) (fun _ hk => trivial), (zi HI0), (zb HB), (zh HK)⟩
 rw [if_neg c5] at H
 have c5b0 : (t425 == 0) = false := beq_eq_false_iff_ne.mpr c5
 have c5b1 : (t425 != 0) = true := bne_iff_ne.mpr c5
 by_cases c29 : t425 = 1
 rotate_left
 · rw [if_neg c29] at H
   have c29b0 : (t425 == 1) = false := beq_eq_false_iff_ne.mpr c29
   have c29b1 : (t425 != 1) = true := bne_iff_ne.mpr c29
   by_cases c70 : t425 = 2
   rotate_left
   · rw [if_neg c70] at H
     have c70b0 : (t425 == 2) = false := beq_eq_false_iff_ne.mpr c70
     have c70b1 : (t425 != 2) = true := bne_iff_ne.mpr c70
     simp only [Option.some.injEq, Prod.mk.injEq] at H
     obtain ⟨rfl, rfl, rfl⟩ := H
     go_enter Try.func50, Try.ntmps50
     go_wp2_with (first | ((with_reducible refine gate_dst (N := 2) rfl ?_); refine bx 31 #[.slice none 0 0, .slice none 0 0] ?_; intro gb411 hg w91 hbox hb; replace HB := am (below_step (zb HB) hb); have BK411 := am (hbox); have GW411 := am (zm hg (zh HK)); have GE411 := am ((Nat.le_trans HW0.out (zm hg (zh HK)))); replace HK := am (KeepBut.trans (zh HK) (KeepBut.of_below hb g none) (.inl rfl)); have NB0_411 := am (ix hg (zi HI0)); have NB411_0 := am (iy hg (zi HI0)); replace HI0 := am (IsS93.below (zi HI0) hb); clear hb hbox hg) | ((with_reducible refine gate_callee (f := 51) rfl ?_); refine gl Try.func51 9 #[.pointer (some ⟨g, 0, none⟩), .int .i64 22] rfl rfl rfl ?_; (with_reducible refine (spec_l6Rd_pick.calls k g s0_0 s0_1 22 t412 t413 w0 _ ?side1 ?side2 A2.out).mono ?_); (case side1 => exact zi HI0); (case side2 => exact zb HB); rintro e w92 ⟨rfl, hi, hb, hk⟩; refine ⟨_, rfl, ?_⟩; replace BK411 := am (KeepBut.blk hk (zk BK411) NB411_0.out (by simp)); replace HK := am (KeepBut.trans (zh HK) hk (.inl rfl)); replace HB := am (hb); replace HI0 := am (hi); (try clear hb); (try clear hb2); (try clear hk); (try clear hi)) | ((with_reducible refine gate_callee (f := 73) rfl ?_); refine gl Try.func73 11 #[.pointer (some ⟨g, 0, none⟩), .int .i64 (wrap64 (3 + t412))] rfl rfl rfl ?_; (with_reducible refine (spec_l71Ops.calls k g s0_0 t413 (wrap64 (3 + t412)) t414 t417 t420 t423 w0 _ ?side1 ?side2 A3.out).mono ?_); (case side1 => exact zi HI0); (case side2 => exact zb HB); rintro e w93 ⟨v415, v418, v421, rfl, ho0, ho1, ho2, hi, hb, hk⟩; refine ⟨_, rfl, ?_⟩; replace BK411 := am (KeepBut.blk hk (zk BK411) NB411_0.out (by simp)); have HO416 := am (Kd.R_lower ho0 (keep_size (zh HK))); have HO419 := am (Kd.R_lower ho1 (keep_size (zh HK))); have HO422 := am (Kd.S_lower ho2 (keep_size (zh HK))); replace HK := am (KeepBut.trans (zh HK) hk (.inl rfl)); replace HB := am (hb); replace HI0 := am (hi); (try clear hb); (try clear hb2); (try clear hk); (try clear hi); (try clear ho0); (try clear ho1); (try clear ho2)) | ((with_reducible refine gate_dst (N := 4) rfl ?_); refine bx 31 #[.slice none 0 0, .slice none 0 0] ?_; intro gb424 hg w94 hbox hb; replace HO416 := am (Kd.R_below (zr HO416) hb); replace HO419 := am (Kd.R_below (zr HO419) hb); replace HO422 := am (Kd.S_below (zs HO422) hb); replace HB := am (below_step (zb HB) hb); have BK424 := am (hbox); have GW424 := am (zm hg (zh HK)); have GE424 := am ((Nat.le_trans HW0.out (zm hg (zh HK)))); replace HK := am (KeepBut.trans (zh HK) (KeepBut.of_below hb g none) (.inl rfl)); have NB411_424 := am (zx hg (zk BK411)); have NB424_411 := am (zy hg (zk BK411)); replace BK411 := am (blk_below (zk BK411) hb); have NB0_424 := am (ix hg (zi HI0)); have NB424_0 := am (iy hg (zi HI0)); replace HI0 := am (IsS93.below (zi HI0) hb); clear hb hbox hg; obtain ⟨Ao95, co95, eo95⟩ := Kd.R_slice HO419.out; subst eo95; have hnb96 := NB424_411.out; have hnc96 := NB411_424.out; have hnb97 := NB424_0.out; have hnc97 := NB0_424.out; have hcz98_0 := ce0 BK424; have hcz98_1 := ce1 BK424; have hfz98_0 := bfz BK424 0; have hfz98_1 := bfz BK424 1; obtain ⟨Ao99, co99, eo99⟩ := Kd.S_slice HO422.out; subst eo99) | ((with_reducible refine gate_callee (f := 51) rfl ?_); refine gl Try.func51 15 #[.pointer (some ⟨g, 0, none⟩), .int .i64 30] rfl rfl rfl ?_; (with_reducible refine (spec_l6Rd_pick.calls k g s0_0 t423 30 t425 t426 w0 _ ?side1 ?side2 A4.out).mono ?_); (case side1 => exact zi HI0); (case side2 => exact zb HB); rintro e w100 ⟨rfl, hi, hb, hk⟩; refine ⟨_, rfl, ?_⟩; replace BK411 := am (KeepBut.blk hk (zk BK411) NB411_0.out (by simp)); replace HO416 := am (Kd.R_mono (Kd.R_keep (IsS93.apart (zi HI0) (rf HO416 BK424) (by decide)) hk (fun _ h => h.2)) (fun _ h => h.1)); replace HO419 := am (Kd.R_mono (Kd.R_keep (IsS93.apart (zi HI0) (rf HO419 BK424) (by decide)) hk (fun _ h => h.2)) (fun _ h => h.1)); replace HO422 := am (Kd.S_mono (Kd.S_keep (IsS93.apartS (zi HI0) (sf HO422 BK424) (by decide)) hk (fun _ h => h.2)) (fun _ h => h.1)); replace BK424 := am (KeepBut.blk hk (g' := gb424) (o := .cells #[.slice Ao95 t417.length co95, .slice Ao99 t420.length co99] 31 (0, 0)) (zp BK424) NB424_0.out (by simp)); replace HK := am (KeepBut.trans (zh HK) hk (.inl rfl)); replace HB := am (hb); replace HI0 := am (hi); (try clear hb); (try clear hb2); (try clear hk); (try clear hi); have hcz101_0 := ce0 BK424; have hcz101_1 := ce1 BK424; have hfz101_0 := bfz BK424 0; have hfz101_1 := bfz BK424 1; have hnb102 := NB411_0.out; have hnc102 := NB0_411.out; have hcz103_0 := ce0 BK411; have hcz103_1 := ce1 BK411; have hfz103_0 := bfz BK411 0; have hfz103_1 := bfz BK411 1))
     refine bodyPost_ret (results_cell_row rfl _ _ gb411 31 #[.slice Ao95 t417.length co95, .slice Ao99 t420.length co99] (0, 0) _ rfl (zp BK411) Try.underlying31 rfl (by kernel_rfl)) rfl ?_
     exact ⟨_, _, zw, by (with_reducible repeat (first | apply Kd.R_alloc | apply Kd.R_drewN | apply Kd.R_drew)); exact Kd.R_mono (Kd.R_far (p := ⟨gb411, 1, none⟩) (Kd.R_far (p := ⟨gb411, 0, none⟩) (Kd.R_types HO419.out BK411.out (by decide)) (fun _ hk => hk.2) (.slice Ao95 t417.length co95)) (fun _ hk => hk.2) (.slice Ao99 t420.length co99)) (fun _ hk => trivial), by (with_reducible repeat (first | apply Kd.S_alloc | apply Kd.S_drewN | apply Kd.S_drew)); exact Kd.S_mono (Kd.S_far (p := ⟨gb411, 1, none⟩) (Kd.S_far (p := ⟨gb411, 0, none⟩) (Kd.S_types HO422.out BK411.out (by decide)) (fun _ hk => hk.2) (.slice Ao95 t417.length co95)) (fun _ hk => hk.2) (.slice Ao99 t420.length co99)) (fun _ hk => trivial), (zi HI0), (zb HB), (zh HK)⟩
   rw [if_pos c70] at H
   have c70b0 : (t425 == 2) = true := beq_iff_eq.mpr c70
   have c70b1 : (t425 != 2) = false := bne_eq_false_iff_eq.mpr c70
   clear c70
   obtain ⟨y440, hy440⟩ : ∃ y_ : List Int, y_ = (([0] : List Int)) := ⟨_, rfl⟩
   replace H : (if t420.length < 3518437208883 then (some (t417, (t420 ++ [(⟨(⟨#[65]⟩ : ByteArray), y440⟩ : S38)]), t426)) else (none)) = some (r1, r2, r3) := hY hy440 H
   have Ny440 := am hy440
   clear hy440
   by_cases c71 : t420.length < 3518437208883
   rotate_left
   · rw [if_neg c71] at H
     exact absurd H (by simp)
   rw [if_pos c71] at H
   have LMc71 := am c71
   clear c71
   obtain ⟨y443, hy443⟩ : ∃ y_ : List (S38), y_ = (t420 ++ [(⟨(⟨#[65]⟩ : ByteArray), y440⟩ : S38)]) := ⟨_, rfl⟩
   replace H : (some (t417, y443, t426)) = some (r1, r2, r3) := hY hy443 H
   have Ny443 := am hy443
   clear hy443
   simp only [Option.some.injEq, Prod.mk.injEq] at H
   obtain ⟨rfl, rfl, rfl⟩ := H
   go_enter Try.func50, Try.ntmps50
   go_wp2_with (first | ((with_reducible refine gate_dst (N := 2) rfl ?_); refine bx 31 #[.slice none 0 0, .slice none 0 0] ?_; intro gb411 hg w72 hbox hb; replace HB := am (below_step (zb HB) hb); have BK411 := am (hbox); have GW411 := am (zm hg (zh HK)); have GE411 := am ((Nat.le_trans HW0.out (zm hg (zh HK)))); replace HK := am (KeepBut.trans (zh HK) (KeepBut.of_below hb g none) (.inl rfl)); have NB0_411 := am (ix hg (zi HI0)); have NB411_0 := am (iy hg (zi HI0)); replace HI0 := am (IsS93.below (zi HI0) hb); clear hb hbox hg) | ((with_reducible refine gate_callee (f := 51) rfl ?_); refine gl Try.func51 9 #[.pointer (some ⟨g, 0, none⟩), .int .i64 22] rfl rfl rfl ?_; (with_reducible refine (spec_l6Rd_pick.calls k g s0_0 s0_1 22 t412 t413 w0 _ ?side1 ?side2 A2.out).mono ?_); (case side1 => exact zi HI0); (case side2 => exact zb HB); rintro e w73 ⟨rfl, hi, hb, hk⟩; refine ⟨_, rfl, ?_⟩; replace BK411 := am (KeepBut.blk hk (zk BK411) NB411_0.out (by simp)); replace HK := am (KeepBut.trans (zh HK) hk (.inl rfl)); replace HB := am (hb); replace HI0 := am (hi); (try clear hb); (try clear hb2); (try clear hk); (try clear hi)) | ((with_reducible refine gate_callee (f := 73) rfl ?_); refine gl Try.func73 11 #[.pointer (some ⟨g, 0, none⟩), .int .i64 (wrap64 (3 + t412))] rfl rfl rfl ?_; (with_reducible refine (spec_l71Ops.calls k g s0_0 t413 (wrap64 (3 + t412)) t414 t417 t420 t423 w0 _ ?side1 ?side2 A3.out).mono ?_); (case side1 => exact zi HI0); (case side2 => exact zb HB); rintro e w74 ⟨v415, v418, v421, rfl, ho0, ho1, ho2, hi, hb, hk⟩; refine ⟨_, rfl, ?_⟩; replace BK411 := am (KeepBut.blk hk (zk BK411) NB411_0.out (by simp)); have HO416 := am (Kd.R_lower ho0 (keep_size (zh HK))); have HO419 := am (Kd.R_lower ho1 (keep_size (zh HK))); have HO422 := am (Kd.S_lower ho2 (keep_size (zh HK))); replace HK := am (KeepBut.trans (zh HK) hk (.inl rfl)); replace HB := am (hb); replace HI0 := am (hi); (try clear hb); (try clear hb2); (try clear hk); (try clear hi); (try clear ho0); (try clear ho1); (try clear ho2)) | ((with_reducible refine gate_dst (N := 4) rfl ?_); refine bx 31 #[.slice none 0 0, .slice none 0 0] ?_; intro gb424 hg w75 hbox hb; replace HO416 := am (Kd.R_below (zr HO416) hb); replace HO419 := am (Kd.R_below (zr HO419) hb); replace HO422 := am (Kd.S_below (zs HO422) hb); replace HB := am (below_step (zb HB) hb); have BK424 := am (hbox); have GW424 := am (zm hg (zh HK)); have GE424 := am ((Nat.le_trans HW0.out (zm hg (zh HK)))); replace HK := am (KeepBut.trans (zh HK) (KeepBut.of_below hb g none) (.inl rfl)); have NB411_424 := am (zx hg (zk BK411)); have NB424_411 := am (zy hg (zk BK411)); replace BK411 := am (blk_below (zk BK411) hb); have NB0_424 := am (ix hg (zi HI0)); have NB424_0 := am (iy hg (zi HI0)); replace HI0 := am (IsS93.below (zi HI0) hb); clear hb hbox hg; obtain ⟨Ao76, co76, eo76⟩ := Kd.R_slice HO419.out; subst eo76; have hnb77 := NB424_411.out; have hnc77 := NB411_424.out; have hnb78 := NB424_0.out; have hnc78 := NB0_424.out; have hcz79_0 := ce0 BK424; have hcz79_1 := ce1 BK424; have hfz79_0 := bfz BK424 0; have hfz79_1 := bfz BK424 1; obtain ⟨Ao80, co80, eo80⟩ := Kd.S_slice HO422.out; subst eo80) | ((with_reducible refine gate_callee (f := 51) rfl ?_); refine gl Try.func51 15 #[.pointer (some ⟨g, 0, none⟩), .int .i64 30] rfl rfl rfl ?_; (with_reducible refine (spec_l6Rd_pick.calls k g s0_0 t423 30 t425 t426 w0 _ ?side1 ?side2 A4.out).mono ?_); (case side1 => exact zi HI0); (case side2 => exact zb HB); rintro e w81 ⟨rfl, hi, hb, hk⟩; refine ⟨_, rfl, ?_⟩; replace BK411 := am (KeepBut.blk hk (zk BK411) NB411_0.out (by simp)); replace HO416 := am (Kd.R_mono (Kd.R_keep (IsS93.apart (zi HI0) (rf HO416 BK424) (by decide)) hk (fun _ h => h.2)) (fun _ h => h.1)); replace HO419 := am (Kd.R_mono (Kd.R_keep (IsS93.apart (zi HI0) (rf HO419 BK424) (by decide)) hk (fun _ h => h.2)) (fun _ h => h.1)); replace HO422 := am (Kd.S_mono (Kd.S_keep (IsS93.apartS (zi HI0) (sf HO422 BK424) (by decide)) hk (fun _ h => h.2)) (fun _ h => h.1)); replace BK424 := am (KeepBut.blk hk (g' := gb424) (o := .cells #[.slice Ao76 t417.length co76, .slice Ao80 t420.length co80] 31 (0, 0)) (zp BK424) NB424_0.out (by simp)); replace HK := am (KeepBut.trans (zh HK) hk (.inl rfl)); replace HB := am (hb); replace HI0 := am (hi); (try clear hb); (try clear hb2); (try clear hk); (try clear hi); have hcz82_0 := ce0 BK424; have hcz82_1 := ce1 BK424; have hfz82_0 := bfz BK424 0; have hfz82_1 := bfz BK424 1) | ((with_reducible refine gate_dst (N := 53) rfl ?_); refine Kd.R_lit (Kd.int .i64) _ 3 ?hg (N := 53) ?hd (xs := ([0] : List Int)) (inner := [.int .i64 0]) (ok := fun _ => True) (okp := fun _ => True) ?hr ?hp (fun _ hk => hk) trivial (Below.refl _ _) (Nat.le_refl _) (by simp) ?_; (case hd => rfl); (case hg => rfl); (case hr => first | (go_simp; done) | (go_simp; rfl)); (case hp => exact (Reps.one (show Kd.M (Kd.int .i64) _ _ _ 0 [.int .i64 0] from rfl) (Reps.none _ _))); intro v441 w83 ho84 hb hg_ hnew_; clear hg_ hnew_; (first | rw [← Ny440.out] at ho84 | (simp only [Int.reduceToNat] at ho84; rw [← Ny440.out] at ho84)); replace HO416 := am (Kd.R_below (zr HO416) hb); replace HO419 := am (Kd.R_below (zr HO419) hb); replace HO422 := am (Kd.S_elder' (zs HO422) (Kd.R_base ho84) hb); have HO442 := am (Kd.R_lower ho84 (keep_size (zh HK))); replace HI0 := am (IsS93.below (zi HI0) hb); replace BK411 := am (blk_below (zk BK411) hb); replace BK424 := am (blk_below (zk BK424) hb); replace HK := am (KeepBut.trans (zh HK) (KeepBut.of_below hb g none) (.inl rfl)); replace HB := am (below_step (zb HB) hb); clear hb ho84; obtain ⟨Ao85, co85, eo85⟩ := Kd.R_slice HO442.out; subst eo85) | ((with_reducible refine gate_builtin (b := .append) (xs := #[.tmp 52, .tmp 55]) rfl ?_); at_builtin; refine Kd.S_append k38 w.heap.size rfl (.tmp 52) (.tmp 55) 29 38 (.agg #[(.string ⟨#[]⟩), (.slice none 0 0)]) 40 rfl Try.underlying29 info38 rfl (by decide) (by omega) (.slice Ao80 t420.length co80) t420 (⟨(⟨#[65]⟩ : ByteArray), y440⟩ : S38) [.string (⟨#[65]⟩ : ByteArray), .slice Ao85 y440.length co85] (fun _ => True) (fun k_ => some k_ = (.slice Ao85 y440.length co85 : Value).ownBlock) rfl rfl ?aP (fun k_ hk_ => ((Kd.R_mono (ok' := fun k_ => ((fun _ => True)) k_ ∧ some k_ ≠ (.slice Ao80 t420.length co80 : Value).ownBlock) (Kd.R_apart' (HO442.out) (Kd.S_typed HO422.out) (by decide)) (fun k_ hk => ⟨trivial, hk.2⟩))).1 k_ hk_.symm) ?aF ?aO (Below.refl _ _) ?aS ?aL ?_; (case aP => exact k38_mkM _ _ _ (⟨(⟨#[65]⟩ : ByteArray), y440⟩ : S38) (Kd.R_mono (Kd.R_tight rfl (Kd.R_mono (ok' := fun k_ => ((fun _ => True)) k_ ∧ some k_ ≠ (.slice Ao80 t420.length co80 : Value).ownBlock) (Kd.R_apart' (HO442.out) (Kd.S_typed HO422.out) (by decide)) (fun k_ hk => ⟨trivial, hk.2⟩))) (fun _ h_ => h_))); (case aF => exact (fun _ _ => trivial)); (case aO => exact (by (with_reducible repeat (first | apply Kd.S_alloc | apply Kd.S_drewN | apply Kd.S_drew)); exact Kd.S_mono HO422.out (fun k_ hk => ⟨trivial, fun e_ => hk.2 e_⟩))); (case aS => exact (keep_size (zh HK))); (case aL => have := LMc71.out; omega); intro v444 w86 ho hb hg hat; rw [← Ny443.out] at ho; replace HI0 := am (IsS93.grown (zi HI0) hg (IsS93.own_neS HI0.out HO422.out (by decide))); replace BK411 := am (blk_grown (zk BK411) hg (Kd.S_ne HO422.out BK411.out (by decide))); replace HO416 := am (Kd.R_over' (zr HO416) (Kd.S_typed (zs HO422)) (by decide) hg); replace HO419 := am (Kd.R_over' (zr HO419) (Kd.S_typed (zs HO422)) (by decide) hg); replace BK424 := am (blk_grown (zk BK424) hg (Kd.S_ne HO422.out BK424.out (by decide))); replace HB := am (below_weaken (zb HB) HL.out hb); replace HK := am (KeepBut.trans (zh HK) (KeepBut.of_grown hg g) (Kd.S_base2 HO422.out)); have HO445 := am (ho); clear HO422 HO442; clear ho hb hg hat; obtain ⟨Ao87, co87, eo87⟩ := Kd.S_slice HO445.out; subst eo87; have hcz88_0 := ce0 BK424; have hcz88_1 := ce1 BK424; have hfz88_0 := bfz BK424 0; have hfz88_1 := bfz BK424 1; have hnb89 := NB411_0.out; have hnc89 := NB0_411.out; have hcz90_0 := ce0 BK411; have hcz90_1 := ce1 BK411; have hfz90_0 := bfz BK411 0; have hfz90_1 := bfz BK411 1))
   refine bodyPost_ret (results_cell_row rfl _ _ gb411 31 #[.slice Ao76 t417.length co76, .slice Ao87 y443.length co87] (0, 0) _ rfl (zp BK411) Try.underlying31 rfl (by kernel_rfl)) rfl ?_
   exact ⟨_, _, zw, by (with_reducible repeat (first | apply Kd.R_alloc | apply Kd.R_drewN | apply Kd.R_drew)); exact Kd.R_mono (Kd.R_far (p := ⟨gb411, 1, none⟩) (Kd.R_far (p := ⟨gb411, 0, none⟩) (Kd.R_far (p := ⟨gb424, 1, none⟩) (Kd.R_types (Kd.R_types HO419.out BK424.out (by decide)) BK411.out (by decide)) (fun _ hk => hk.1.2) (.slice Ao87 y443.length co87)) (fun _ hk => hk.2) (.slice Ao76 t417.length co76)) (fun _ hk => hk.2) (.slice Ao87 y443.length co87)) (fun _ hk => trivial), by (with_reducible repeat (first | apply Kd.S_alloc | apply Kd.S_drewN | apply Kd.S_drew)); exact Kd.S_mono (Kd.S_far (p := ⟨gb411, 1, none⟩) (Kd.S_far (p := ⟨gb411, 0, none⟩) (Kd.S_far (p := ⟨gb424, 1, none⟩) (Kd.S_types (Kd.S_types HO445.out BK424.out (by decide)) BK411.out (by decide)) (fun _ hk => hk.1.2) (.slice Ao87 y443.length co87)) (fun _ hk => hk.2) (.slice Ao76 t417.length co76)) (fun _ hk => hk.2) (.slice Ao87 y443.length co87)) (fun _ hk => trivial), (zi HI0), (zb HB), (zh HK)⟩
 rw [if_pos c29] at H
 have c29b0 : (t425 == 1) = true := beq_iff_eq.mpr c29
 have c29b1 : (t425 != 1) = false := bne_eq_false_iff_eq.mpr c29
 clear c29
 by_cases c30 : (t420.length : Int) > 0
 rotate_left
 · rw [if_neg c30] at H
   have c30b0 : decide (0 < (t420.length : Int)) = false := decide_eq_false c30
   have c30b1 : decide (0 < t420.length) = false := decide_eq_false (by omega)
   clear c30
   simp only [Option.some.injEq, Prod.mk.injEq] at H
   obtain ⟨rfl, rfl, rfl⟩ := H
   go_enter Try.func50, Try.ntmps50
   go_wp2_with (first | ((with_reducible refine gate_dst (N := 2) rfl ?_); refine bx 31 #[.slice none 0 0, .slice none 0 0] ?_; intro gb411 hg w57 hbox hb; replace HB := am (below_step (zb HB) hb); have BK411 := am (hbox); have GW411 := am (zm hg (zh HK)); have GE411 := am ((Nat.le_trans HW0.out (zm hg (zh HK)))); replace HK := am (KeepBut.trans (zh HK) (KeepBut.of_below hb g none) (.inl rfl)); have NB0_411 := am (ix hg (zi HI0)); have NB411_0 := am (iy hg (zi HI0)); replace HI0 := am (IsS93.below (zi HI0) hb); clear hb hbox hg) | ((with_reducible refine gate_callee (f := 51) rfl ?_); refine gl Try.func51 9 #[.pointer (some ⟨g, 0, none⟩), .int .i64 22] rfl rfl rfl ?_; (with_reducible refine (spec_l6Rd_pick.calls k g s0_0 s0_1 22 t412 t413 w0 _ ?side1 ?side2 A2.out).mono ?_); (case side1 => exact zi HI0); (case side2 => exact zb HB); rintro e w58 ⟨rfl, hi, hb, hk⟩; refine ⟨_, rfl, ?_⟩; replace BK411 := am (KeepBut.blk hk (zk BK411) NB411_0.out (by simp)); replace HK := am (KeepBut.trans (zh HK) hk (.inl rfl)); replace HB := am (hb); replace HI0 := am (hi); (try clear hb); (try clear hb2); (try clear hk); (try clear hi)) | ((with_reducible refine gate_callee (f := 73) rfl ?_); refine gl Try.func73 11 #[.pointer (some ⟨g, 0, none⟩), .int .i64 (wrap64 (3 + t412))] rfl rfl rfl ?_; (with_reducible refine (spec_l71Ops.calls k g s0_0 t413 (wrap64 (3 + t412)) t414 t417 t420 t423 w0 _ ?side1 ?side2 A3.out).mono ?_); (case side1 => exact zi HI0); (case side2 => exact zb HB); rintro e w59 ⟨v415, v418, v421, rfl, ho0, ho1, ho2, hi, hb, hk⟩; refine ⟨_, rfl, ?_⟩; replace BK411 := am (KeepBut.blk hk (zk BK411) NB411_0.out (by simp)); have HO416 := am (Kd.R_lower ho0 (keep_size (zh HK))); have HO419 := am (Kd.R_lower ho1 (keep_size (zh HK))); have HO422 := am (Kd.S_lower ho2 (keep_size (zh HK))); replace HK := am (KeepBut.trans (zh HK) hk (.inl rfl)); replace HB := am (hb); replace HI0 := am (hi); (try clear hb); (try clear hb2); (try clear hk); (try clear hi); (try clear ho0); (try clear ho1); (try clear ho2)) | ((with_reducible refine gate_dst (N := 4) rfl ?_); refine bx 31 #[.slice none 0 0, .slice none 0 0] ?_; intro gb424 hg w60 hbox hb; replace HO416 := am (Kd.R_below (zr HO416) hb); replace HO419 := am (Kd.R_below (zr HO419) hb); replace HO422 := am (Kd.S_below (zs HO422) hb); replace HB := am (below_step (zb HB) hb); have BK424 := am (hbox); have GW424 := am (zm hg (zh HK)); have GE424 := am ((Nat.le_trans HW0.out (zm hg (zh HK)))); replace HK := am (KeepBut.trans (zh HK) (KeepBut.of_below hb g none) (.inl rfl)); have NB411_424 := am (zx hg (zk BK411)); have NB424_411 := am (zy hg (zk BK411)); replace BK411 := am (blk_below (zk BK411) hb); have NB0_424 := am (ix hg (zi HI0)); have NB424_0 := am (iy hg (zi HI0)); replace HI0 := am (IsS93.below (zi HI0) hb); clear hb hbox hg; obtain ⟨Ao61, co61, eo61⟩ := Kd.R_slice HO419.out; subst eo61; have hnb62 := NB424_411.out; have hnc62 := NB411_424.out; have hnb63 := NB424_0.out; have hnc63 := NB0_424.out; have hcz64_0 := ce0 BK424; have hcz64_1 := ce1 BK424; have hfz64_0 := bfz BK424 0; have hfz64_1 := bfz BK424 1; obtain ⟨Ao65, co65, eo65⟩ := Kd.S_slice HO422.out; subst eo65) | ((with_reducible refine gate_callee (f := 51) rfl ?_); refine gl Try.func51 15 #[.pointer (some ⟨g, 0, none⟩), .int .i64 30] rfl rfl rfl ?_; (with_reducible refine (spec_l6Rd_pick.calls k g s0_0 t423 30 t425 t426 w0 _ ?side1 ?side2 A4.out).mono ?_); (case side1 => exact zi HI0); (case side2 => exact zb HB); rintro e w66 ⟨rfl, hi, hb, hk⟩; refine ⟨_, rfl, ?_⟩; replace BK411 := am (KeepBut.blk hk (zk BK411) NB411_0.out (by simp)); replace HO416 := am (Kd.R_mono (Kd.R_keep (IsS93.apart (zi HI0) (rf HO416 BK424) (by decide)) hk (fun _ h => h.2)) (fun _ h => h.1)); replace HO419 := am (Kd.R_mono (Kd.R_keep (IsS93.apart (zi HI0) (rf HO419 BK424) (by decide)) hk (fun _ h => h.2)) (fun _ h => h.1)); replace HO422 := am (Kd.S_mono (Kd.S_keep (IsS93.apartS (zi HI0) (sf HO422 BK424) (by decide)) hk (fun _ h => h.2)) (fun _ h => h.1)); replace BK424 := am (KeepBut.blk hk (g' := gb424) (o := .cells #[.slice Ao61 t417.length co61, .slice Ao65 t420.length co65] 31 (0, 0)) (zp BK424) NB424_0.out (by simp)); replace HK := am (KeepBut.trans (zh HK) hk (.inl rfl)); replace HB := am (hb); replace HI0 := am (hi); (try clear hb); (try clear hb2); (try clear hk); (try clear hi); have hcz67_0 := ce0 BK424; have hcz67_1 := ce1 BK424; have hfz67_0 := bfz BK424 0; have hfz67_1 := bfz BK424 1; have hnb68 := NB411_0.out; have hnc68 := NB0_411.out; have hcz69_0 := ce0 BK411; have hcz69_1 := ce1 BK411; have hfz69_0 := bfz BK411 0; have hfz69_1 := bfz BK411 1))
   refine bodyPost_ret (results_cell_row rfl _ _ gb411 31 #[.slice Ao61 t417.length co61, .slice Ao65 t420.length co65] (0, 0) _ rfl (zp BK411) Try.underlying31 rfl (by kernel_rfl)) rfl ?_
   exact ⟨_, _, zw, by (with_reducible repeat (first | apply Kd.R_alloc | apply Kd.R_drewN | apply Kd.R_drew)); exact Kd.R_mono (Kd.R_far (p := ⟨gb411, 1, none⟩) (Kd.R_far (p := ⟨gb411, 0, none⟩) (Kd.R_types HO419.out BK411.out (by decide)) (fun _ hk => hk.2) (.slice Ao61 t417.length co61)) (fun _ hk => hk.2) (.slice Ao65 t420.length co65)) (fun _ hk => trivial), by (with_reducible repeat (first | apply Kd.S_alloc | apply Kd.S_drewN | apply Kd.S_drew)); exact Kd.S_mono (Kd.S_far (p := ⟨gb411, 1, none⟩) (Kd.S_far (p := ⟨gb411, 0, none⟩) (Kd.S_types HO422.out BK411.out (by decide)) (fun _ hk => hk.2) (.slice Ao61 t417.length co61)) (fun _ hk => hk.2) (.slice Ao65 t420.length co65)) (fun _ hk => trivial), (zi HI0), (zb HB), (zh HK)⟩
 rw [if_pos c30] at H
 have c30b0 : decide (0 < (t420.length : Int)) = true := decide_eq_true c30
 have c30b1 : decide (0 < t420.length) = true := decide_eq_true (by omega)
 clear c30
 replace H := obs H
 obtain ⟨⟨t432, t433⟩, A310, H⟩ := H
 replace H : (if 0 ≤ t432 then (if t432 < (t420.length : Int) then ((spec_l6Rd_pick.f k s0_0 t433 10).bind fun bt435 => (if 0 < (((rd_T38 t420 t432).f1).length : Int) then (some (t417, (t420.set (t432 : Int).toNat (⟨(rd_T38 t420 t432).f0, (((rd_T38 t420 t432).f1).set (0 : Int).toNat bt435.1)⟩ : S38)), bt435.2)) else (none))) else (none)) else (none)) = some (r1, r2, r3) := H
 have A31 := am A310
 clear A310
 by_cases c32 : 0 ≤ t432
 rotate_left
 · rw [if_neg c32] at H
   exact absurd H (by simp)
 rw [if_pos c32] at H
 have c32b0 : decide (0 ≤ t432) = true := decide_eq_true c32
 clear c32
 by_cases c33 : t432 < (t420.length : Int)
 rotate_left
 · rw [if_neg c33] at H
   exact absurd H (by simp)
 rw [if_pos c33] at H
 have c33b0 : decide (t432 < (t420.length : Int)) = true := decide_eq_true c33
 clear c33
 replace H := obs H
 obtain ⟨⟨t435, t436⟩, A340, H⟩ := H
 replace H : (if 0 < (((rd_T38 t420 t432).f1).length : Int) then (some (t417, (t420.set (t432 : Int).toNat (⟨(rd_T38 t420 t432).f0, (((rd_T38 t420 t432).f1).set (0 : Int).toNat t435)⟩ : S38)), t436)) else (none)) = some (r1, r2, r3) := H
 have A34 := am A340
 clear A340
 by_cases c35 : 0 < (((rd_T38 t420 t432).f1).length : Int)
 rotate_left
 · rw [if_neg c35] at H
   exact absurd H (by simp)
 rw [if_pos c35] at H
 have c35b0 : decide (0 < (((rd_T38 t420 t432).f1).length : Int)) = true := decide_eq_true c35
 have c35b1 : decide (0 < ((rd_T38 t420 t432).f1).length) = true := decide_eq_true (by omega)
 clear c35
 obtain ⟨y437, hy437⟩ : ∃ y_ : List Int, y_ = (((rd_T38 t420 t432).f1).set (0 : Int).toNat t435) := ⟨_, rfl⟩
 replace H : (some (t417, (t420.set (t432 : Int).toNat (⟨(rd_T38 t420 t432).f0, y437⟩ : S38)), t436)) = some (r1, r2, r3) := hY hy437 H
 have Ny437 := am hy437
 clear hy437
 obtain ⟨y439, hy439⟩ : ∃ y_ : List (S38), y_ = (t420.set (t432 : Int).toNat (⟨(rd_T38 t420 t432).f0, y437⟩ : S38)) := ⟨_, rfl⟩
 replace H : (some (t417, y439, t436)) = some (r1, r2, r3) := hY hy439 H
 have Ny439 := am hy439
 clear hy439
 simp only [Option.some.injEq, Prod.mk.injEq] at H
 obtain ⟨rfl, rfl, rfl⟩ := H
 go_enter Try.func50, Try.ntmps50
 try go_wp2_with (first | ((with_reducible refine gate_dst (N := 2) rfl ?_); refine bx 31 #[.slice none 0 0, .slice none 0 0] ?_; intro gb411 hg w37 hbox hb; replace HB := am (below_step (zb HB) hb); have BK411 := am (hbox); have GW411 := am (zm hg (zh HK)); have GE411 := am ((Nat.le_trans HW0.out (zm hg (zh HK)))); replace HK := am (KeepBut.trans (zh HK) (KeepBut.of_below hb g none) (.inl rfl)); have NB0_411 := am (ix hg (zi HI0)); have NB411_0 := am (iy hg (zi HI0)); replace HI0 := am (IsS93.below (zi HI0) hb); clear hb hbox hg) | ((with_reducible refine gate_callee (f := 51) rfl ?_); refine gl Try.func51 9 #[.pointer (some ⟨g, 0, none⟩), .int .i64 22] rfl rfl rfl ?_; (with_reducible refine (spec_l6Rd_pick.calls k g s0_0 s0_1 22 t412 t413 w0 _ ?side1 ?side2 A2.out).mono ?_); (case side1 => exact zi HI0); (case side2 => exact zb HB); rintro e w38 ⟨rfl, hi, hb, hk⟩; refine ⟨_, rfl, ?_⟩; replace BK411 := am (KeepBut.blk hk (zk BK411) NB411_0.out (by simp)); replace HK := am (KeepBut.trans (zh HK) hk (.inl rfl)); replace HB := am (hb); replace HI0 := am (hi); (try clear hb); (try clear hb2); (try clear hk); (try clear hi)) | ((with_reducible refine gate_callee (f := 73) rfl ?_); refine gl Try.func73 11 #[.pointer (some ⟨g, 0, none⟩), .int .i64 (wrap64 (3 + t412))] rfl rfl rfl ?_; (with_reducible refine (spec_l71Ops.calls k g s0_0 t413 (wrap64 (3 + t412)) t414 t417 t420 t423 w0 _ ?side1 ?side2 A3.out).mono ?_); (case side1 => exact zi HI0); (case side2 => exact zb HB); rintro e w39 ⟨v415, v418, v421, rfl, ho0, ho1, ho2, hi, hb, hk⟩; refine ⟨_, rfl, ?_⟩; replace BK411 := am (KeepBut.blk hk (zk BK411) NB411_0.out (by simp)); have HO416 := am (Kd.R_lower ho0 (keep_size (zh HK))); have HO419 := am (Kd.R_lower ho1 (keep_size (zh HK))); have HO422 := am (Kd.S_lower ho2 (keep_size (zh HK))); replace HK := am (KeepBut.trans (zh HK) hk (.inl rfl)); replace HB := am (hb); replace HI0 := am (hi); (try clear hb); (try clear hb2); (try clear hk); (try clear hi); (try clear ho0); (try clear ho1); (try clear ho2)) | ((with_reducible refine gate_dst (N := 4) rfl ?_); refine bx 31 #[.slice none 0 0, .slice none 0 0] ?_; intro gb424 hg w40 hbox hb; replace HO416 := am (Kd.R_below (zr HO416) hb); replace HO419 := am (Kd.R_below (zr HO419) hb); replace HO422 := am (Kd.S_below (zs HO422) hb); replace HB := am (below_step (zb HB) hb); have BK424 := am (hbox); have GW424 := am (zm hg (zh HK)); have GE424 := am ((Nat.le_trans HW0.out (zm hg (zh HK)))); replace HK := am (KeepBut.trans (zh HK) (KeepBut.of_below hb g none) (.inl rfl)); have NB411_424 := am (zx hg (zk BK411)); have NB424_411 := am (zy hg (zk BK411)); replace BK411 := am (blk_below (zk BK411) hb); have NB0_424 := am (ix hg (zi HI0)); have NB424_0 := am (iy hg (zi HI0)); replace HI0 := am (IsS93.below (zi HI0) hb); clear hb hbox hg; obtain ⟨Ao41, co41, eo41⟩ := Kd.R_slice HO419.out; subst eo41; have hnb42 := NB424_411.out; have hnc42 := NB411_424.out; have hnb43 := NB424_0.out; have hnc43 := NB0_424.out; have hcz44_0 := ce0 BK424; have hcz44_1 := ce1 BK424; have hfz44_0 := bfz BK424 0; have hfz44_1 := bfz BK424 1; obtain ⟨Ao45, co45, eo45⟩ := Kd.S_slice HO422.out; subst eo45) | ((with_reducible refine gate_callee (f := 51) rfl ?_); refine gl Try.func51 15 #[.pointer (some ⟨g, 0, none⟩), .int .i64 30] rfl rfl rfl ?_; (with_reducible refine (spec_l6Rd_pick.calls k g s0_0 t423 30 t425 t426 w0 _ ?side1 ?side2 A4.out).mono ?_); (case side1 => exact zi HI0); (case side2 => exact zb HB); rintro e w46 ⟨rfl, hi, hb, hk⟩; refine ⟨_, rfl, ?_⟩; replace BK411 := am (KeepBut.blk hk (zk BK411) NB411_0.out (by simp)); replace HO416 := am (Kd.R_mono (Kd.R_keep (IsS93.apart (zi HI0) (rf HO416 BK424) (by decide)) hk (fun _ h => h.2)) (fun _ h => h.1)); replace HO419 := am (Kd.R_mono (Kd.R_keep (IsS93.apart (zi HI0) (rf HO419 BK424) (by decide)) hk (fun _ h => h.2)) (fun _ h => h.1)); replace HO422 := am (Kd.S_mono (Kd.S_keep (IsS93.apartS (zi HI0) (sf HO422 BK424) (by decide)) hk (fun _ h => h.2)) (fun _ h => h.1)); replace BK424 := am (KeepBut.blk hk (g' := gb424) (o := .cells #[.slice Ao41 t417.length co41, .slice Ao45 t420.length co45] 31 (0, 0)) (zp BK424) NB424_0.out (by simp)); replace HK := am (KeepBut.trans (zh HK) hk (.inl rfl)); replace HB := am (hb); replace HI0 := am (hi); (try clear hb); (try clear hb2); (try clear hk); (try clear hi); have hcz47_0 := ce0 BK424; have hcz47_1 := ce1 BK424; have hfz47_0 := bfz BK424 0; have hfz47_1 := bfz BK424 1) | ((with_reducible refine gate_callee (f := 51) rfl ?_); refine gl Try.func51 39 #[.pointer (some ⟨g, 0, none⟩), .int .i64 (t420.length : Int)] rfl rfl rfl ?_; (with_reducible refine (spec_l6Rd_pick.calls k g s0_0 t426 (t420.length : Int) t432 t433 w0 _ ?side1 ?side2 A31.out).mono ?_); (case side1 => exact zi HI0); (case side2 => exact zb HB); rintro e w48 ⟨rfl, hi, hb, hk⟩; refine ⟨_, rfl, ?_⟩; replace BK411 := am (KeepBut.blk hk (zk BK411) NB411_0.out (by simp)); replace HO416 := am (Kd.R_mono (Kd.R_keep (IsS93.apart (zi HI0) (zr HO416) (by decide)) hk (fun _ h => h.2)) (fun _ h => h.1)); replace HO419 := am (Kd.R_mono (Kd.R_keep (IsS93.apart (zi HI0) (zr HO419) (by decide)) hk (fun _ h => h.2)) (fun _ h => h.1)); replace HO422 := am (Kd.S_mono (Kd.S_keep (IsS93.apartS (zi HI0) (zs HO422) (by decide)) hk (fun _ h => h.2)) (fun _ h => h.1)); replace BK424 := am (KeepBut.blk hk (zk BK424) NB424_0.out (by simp)); replace HK := am (KeepBut.trans (zh HK) hk (.inl rfl)); replace HB := am (hb); replace HI0 := am (hi); (try clear hb); (try clear hb2); (try clear hk); (try clear hi)))
 replace HO416 := am (Kd.R_drew HO416.out)
 replace HO419 := am (Kd.R_drew HO419.out)
 replace HO422 := am (Kd.S_drew HO422.out)
 replace BK411 := am (blk_drew BK411.out)
 replace BK424 := am (blk_drew BK424.out)
 replace HI0 := am (IsS93.drew HI0.out)
 replace HK := am (keep_drew HK.out)
 replace HB := am (below_drew1 HB.out)
 have p434 : 0 ≤ (t432 : Int) := of_decide_eq_true zl
 have q434 : t432 < (t420.length : Int) := of_decide_eq_true zl
 obtain ⟨ad434, A434_1, c434_1, e434, hx434_0, hx434_1, hl434_1, hi434_1⟩ := at_T38 (Kd.S_reads' HO422.out).2.2 t432 p434 q434
 cases e434
 obtain ⟨ce434, hce434, hMe434, hcc434⟩ := Kd.S_get HO422.out z38 t432 p434 (by first | exact q434 | exact of_decide_eq_true zl | (have e_ := (Kd.S_reads' HO422.out).1; omega))
 obtain ⟨ve434_1, rfl, ge434_1⟩ := k38_openM hMe434
 have hv434_1 := hcc434 1 _ rfl
 rw [add_field _ _ 1 (by omega)] at hv434_1
 replace hv434_1 := Option.some.inj (hv434_1.symm.trans hx434_1)
 rw [hv434_1] at ge434_1
 have HL434_1 := am (show Kd.R (Kd.int .i64) 3 _ _ _ _ ((rd_T38 t420 t432).f1) from ge434_1)
 clear hv434_1 ge434_1
 have HX434_1 := am hx434_1
 clear hcc434 hce434
 have HR434_1 := am hi434_1
 have HC434_1 := am hl434_1
 clear hi434_1 hl434_1
 replace p434 := eq_true p434
 replace q434 := eq_true q434
 refine start_ (n := 10) (S := fun w' => w'.cell? ⟨gb424, 0, none⟩ = some (.slice Ao41 t417.length co41) ∧ w'.cell? ⟨gb424, 1, none⟩ = some (.slice (some ad434) t420.length co45) ∧ w'.cell? (ad434.add ((t432).toNat * 2)) = some (.string ((rd_T38 t420 t432).f0)) ∧ w'.cell? ⟨(ad434.add ((t432).toNat * 2)).block, (ad434.add ((t432).toNat * 2)).off + 1, none⟩ = some (.slice A434_1 ((rd_T38 t420 t432).f1).length c434_1)) (ds := [9]) (bs 10 0) (by kernel_rfl) rfl rfl ⟨ce0 BK424, ce1 BK424, hx434_0, hx434_1⟩ (fun hHeld => ?_); refine with_tabW spec_l71Pool.tab8 spec_l71Pool.bits8 (fun HT_ HW_ => ?_)
 generalize w48.drew = w49 at HO416 HO419 HO422 BK411 BK424 HI0 HK HB HL434_1 HR434_1 HX434_1 hx434_0 hx434_1 hHeld ⊢
 refine pu 0 40 10 1 rfl rfl ?_
 refine pu 2 42 10 5 rfl rfl ?_
 refine pu 6 46 10 69 rfl rfl ?_
 refine ta4 1 41 10 71 rfl rfl hHeld ?_
 refine pu 3 43 10 79 rfl rfl ?_
 refine pu 4 44 10 95 rfl rfl ?_
 refine ta4 5 45 10 127 rfl rfl hHeld ?_
 refine oz 7 10 255 rfl rfl (fun K hK => ?_)
 refine gs Try.func51 #[.pointer (some ⟨g, 0, none⟩), .int .i64 10] rfl rfl ?_
 with_reducible refine (spec_l6Rd_pick.calls k g s0_0 t433 10 t435 t436 w0 _ ?side1 ?side2 A34.out).mono ?_
 (case side1 => exact zi HI0)
 (case side2 => exact zb HB)
 rintro e w50 ⟨rfl, hi, hb, hk⟩
 have HS2_ := keep_cell hk (hHeld.2.2.1) (by first | (rw [add_block]; exact Kd.own_blk (IsS93.own_neS HI0.out HO422.out (by decide))) | (show (Addr.add _ _).block ≠ _; rw [add_block]; exact Kd.own_blk (IsS93.own_neS HI0.out HO422.out (by decide))) | exact Kd.own_blk (IsS93.own_neS HI0.out HO422.out (by decide)))
 have HS3_ := keep_cell hk (hHeld.2.2.2) (by first | (rw [add_block]; exact Kd.own_blk (IsS93.own_neS HI0.out HO422.out (by decide))) | (show (Addr.add _ _).block ≠ _; rw [add_block]; exact Kd.own_blk (IsS93.own_neS HI0.out HO422.out (by decide))) | exact Kd.own_blk (IsS93.own_neS HI0.out HO422.out (by decide)))
 refine ⟨_, rfl, ?_⟩
 replace BK411 := am (KeepBut.blk hk (zk BK411) NB411_0.out (by simp))
 replace HO416 := am (Kd.R_mono (Kd.R_keep (IsS93.apart (zi HI0) (zr HO416) (by decide)) hk (fun _ h => h.2)) (fun _ h => h.1))
 replace HO419 := am (Kd.R_mono (Kd.R_keep (IsS93.apart (zi HI0) (zr HO419) (by decide)) hk (fun _ h => h.2)) (fun _ h => h.1))
 replace BK424 := am (KeepBut.blk hk (zk BK424) NB424_0.out (by simp))
 replace HL434_1 := am (Kd.R_mono (Kd.R_keep (IsS93.apart (zi HI0) (zr HL434_1) (by decide)) hk (fun _ h => h.2)) (fun _ h => h.1))
 replace HX434_1 := am (keep_cell hk HX434_1.out (by first | (rw [add_block]; exact Kd.own_blk (IsS93.own_neS HI0.out HO422.out (by decide))) | (show (Addr.add _ _).block ≠ _; rw [add_block]; exact Kd.own_blk (IsS93.own_neS HI0.out HO422.out (by decide))) | exact Kd.own_blk (IsS93.own_neS HI0.out HO422.out (by decide)) | (dsimp only; exact Kd.own_blk (IsS93.own_neS HI0.out HO422.out (by decide)))))
 replace HO422 := am (Kd.S_mono (Kd.S_keep (IsS93.apartS (zi HI0) (zs HO422) (by decide)) hk (fun _ h => h.2)) (fun _ h => h.1))
 replace HK := am (KeepBut.trans (zh HK) hk (.inl rfl))
 replace HB := am (hb)
 replace HI0 := am (hi)
 (try clear hb)
 (try clear hb2)
 (try clear hk)
 (try clear hi)
 have p36 : 0 ≤ (0 : Int) := (by omega)
 have q36 : (0 : Int) < ((((rd_T38 t420 t432).f1).length : Int) : Int) := of_decide_eq_true zl
 have qi36 : (0 < ((rd_T38 t420 t432).f1).length) = True := eq_true (by omega)
 obtain ⟨go36, co36, eo36, gb36, gl36, cl36, HG36⟩ := Kd.R_form HL434_1.out (by omega)
 (first | cases eo36 | (injection eo36 with ea_ en_ ec_; (first | subst ea_ | (injection ea_ with ea_; subst ea_)); subst ec_; clear en_))
 have GB36 := am gb36
 have GG36 := am HG36
 clear gb36 gl36 HG36
 obtain ⟨hx36_0, hf36_0⟩ := Kd.R_celln 0 HL434_1.out (0 : Int) p36 q36
 (try rw [show ((0 : Int)).toNat = 0 from rfl] at hx36_0)
 (try simp only [Nat.reduceMul, Nat.zero_mul, Nat.zero_add, Nat.reduceAdd] at hx36_0)
 (try rw [show ((0 : Int)).toNat = 0 from rfl] at hf36_0)
 (try simp only [Nat.reduceMul, Nat.zero_mul, Nat.zero_add, Nat.reduceAdd] at hf36_0)
 replace p36 := eq_true p36
 replace q36 := eq_true q36
 have hq51 : (t432 : Int) < (t420.length : Int) := (by have h_ : (t432 : Int) < ((t420.length : Int) : Int) := of_decide_eq_true zl; first | exact h_ | (have e_ := (Kd.S_reads' HO422.out).1; omega) | simpa only [List.length_set, List.length_set] using h_)
 obtain ⟨oki51, ce51, hcl51, hM51, hcc51, hok51, hbk51⟩ := Kd.S_borrow HO422.out z38 (t432 : Int) (of_decide_eq_true zl) (by first | exact hq51 | (have e_ := (Kd.S_reads' HO422.out).1; have h_ := hq51; omega))
 obtain ⟨ve51_1, rfl, ge51_1⟩ := k38_openM hM51
 have hv51 := hcc51 1 _ rfl
 rw [add_field _ _ 1 (by omega)] at hv51
 replace hv51 := Option.some.inj (hv51.symm.trans HX434_1.out)
 subst hv51
 clear hcc51 hcl51
 replace ge51_1 := (show Kd.R (Kd.int .i64) 3 _ _ _ _ ((rd_T38 t420 t432).f1) from ge51_1)
 have HP51 := Kd.R_putg ge51_1 (0 : Int) t435
 have HN0_go36 := am (show g ≠ go36 from by have h_ := IsS93.own_ne HI0.out HL434_1.out (by decide); intro e_; exact h_ (by rw [e_]; rfl))
 rw [← Ny437.out] at HP51
 have HS51 := hbk51 HP51.2 (fun k_ e_ => by injection e_ with e_; subst e_; exact ge51_1.1 _ rfl) (x' := (⟨(rd_T38 t420 t432).f0, y437⟩ : S38)) (k38_mkM _ _ _ (⟨(rd_T38 t420 t432).f0, y437⟩ : S38) HP51.1)
 rw [← Ny439.out] at HS51
 have HQ51 := am HS51
 clear HP51 HS51 hbk51 hok51
 refine hK.out _ _ ⟨ce0 BK424, ce1 BK424, HS2_, HS3_⟩ (fun hHeld => ?_)
 clear hK K
 refine norm_ (a' := ?_) ?_ ?_
 rotate_left
 · show Act.put _ (some 47) _ = _
   simp only [Act.put, List.setIfInBounds_toArray, List.set_cons_zero, List.set_cons_succ, i64_w, i32_w]
   rfl
 refine pu 8 48 10 511 rfl rfl ?_
 refine la 9 10 1023 rfl rfl (fun K hK => ?_)
 refine skip_ (w1 := ?_) (by rfl) rfl ?_ ?_
 rotate_left
 · go_simp
   rfl
 refine hK.out _ _ ?_
 clear hK K
 refine done_ (done_of HT_.out (by kernel_rfl)) ?_
 have n0_ : Aside0 (Kd.R k103 103 (w50.setCell ⟨go36, 0, none⟩ (.int .i64 t435)) w.heap.size (fun _ => True) v415 t414) := ⟨by (with_reducible repeat (first | apply Kd.R_alloc | apply Kd.R_drewN | apply Kd.R_drew)); exact Kd.R_mono (Kd.R_far (p := ⟨go36, 0, none⟩) (Kd.R_types HO416.out GG36.out (by decide)) (fun _ hk => hk.2) (.int .i64 t435)) (fun _ hk => trivial)⟩
 have n1_ : Aside0 (Kd.R k55 55 (w50.setCell ⟨go36, 0, none⟩ (.int .i64 t435)) w.heap.size (fun _ => True) (.slice Ao41 t417.length co41) t417) := ⟨by (with_reducible repeat (first | apply Kd.R_alloc | apply Kd.R_drewN | apply Kd.R_drew)); exact Kd.R_mono (Kd.R_far (p := ⟨go36, 0, none⟩) (Kd.R_types HO419.out GG36.out (by decide)) (fun _ hk => hk.2) (.int .i64 t435)) (fun _ hk => trivial)⟩
 have n2_ : Aside0 (Kd.S k38 38 (w50.setCell ⟨go36, 0, none⟩ (.int .i64 t435)) w.heap.size (fun _ => True) (.slice (some ad434) t420.length co45) y439) := ⟨zs HQ51⟩
 have n3_ : Aside0 ((w50.setCell ⟨go36, 0, none⟩ (.int .i64 t435)).heap[gb411]? = some (.cells #[.slice none 0 0, .slice none 0 0] 31 (0, 0))) := ⟨by (with_reducible repeat (first | refine blk_drewN ?_ _ | refine blk_drew ?_ | refine blk_alloc ?_ _)); refine blk_far ?_ (by have h_ := Kd.R_ne HL434_1.out BK411.out (by decide); intro e_; exact h_ (by rw [e_]; rfl)) _; (with_reducible repeat (first | refine blk_drewN ?_ _ | refine blk_drew ?_ | refine blk_alloc ?_ _)); exact BK411.out⟩
 have n4_ : Aside0 ((w50.setCell ⟨go36, 0, none⟩ (.int .i64 t435)).heap[gb424]? = some (.cells #[.slice Ao41 t417.length co41, .slice (some ad434) t420.length co45] 31 (0, 0))) := ⟨by (with_reducible repeat (first | refine blk_drewN ?_ _ | refine blk_drew ?_ | refine blk_alloc ?_ _)); refine blk_far ?_ (by have h_ := Kd.R_ne HL434_1.out BK424.out (by decide); intro e_; exact h_ (by rw [e_]; rfl)) _; (with_reducible repeat (first | refine blk_drewN ?_ _ | refine blk_drew ?_ | refine blk_alloc ?_ _)); exact BK424.out⟩
 have n5_ : Aside0 (IsS93 w0 (w50.setCell ⟨go36, 0, none⟩ (.int .i64 t435)) g s0_0 t436) := ⟨zi HI0⟩
 have n6_ : Aside0 (KeepBut w (w50.setCell ⟨go36, 0, none⟩ (.int .i64 t435)) g none) := ⟨zh HK⟩
 have n7_ : Aside0 (Below w0.heap.size w0 (w50.setCell ⟨go36, 0, none⟩ (.int .i64 t435))) := ⟨by repeat (first | (with_reducible first | exact HB.out | apply below_alloc | apply pw_below_drewN | apply below_drew1 | refine below_set ?_ (Nat.le_trans HL.out GB36.out) | refine below_set ?_ (IsS93.ge HI0.out) | refine below_set ?_ GE411.out | refine below_set ?_ GE424.out) | exact HB.out)⟩
 (try clear HO416)
 (try clear HO419)
 (try clear HO422)
 (try clear BK411)
 (try clear BK424)
 (try clear HI0)
 (try clear HK)
 (try clear HB)
 generalize (w50.setCell ⟨go36, 0, none⟩ (.int .i64 t435)) = w53 at n0_ n1_ n2_ n3_ n4_ n5_ n6_ n7_ ⊢
 have HO416 := n0_
 have HO419 := n1_
 have HO422 := n2_
 have BK411 := n3_
 have BK424 := n4_
 have HI0 := n5_
 have HK := n6_
 have HB := n7_
 clear n0_ n1_ n2_ n3_ n4_ n5_ n6_ n7_
 have hcz54_0 := ce0 BK424
 have hcz54_1 := ce1 BK424
 have hfz54_0 := bfz BK424 0
 have hfz54_1 := bfz BK424 1
 have hnb55 := NB411_0.out
 have hnc55 := NB0_411.out
 have hcz56_0 := ce0 BK411
 have hcz56_1 := ce1 BK411
 have hfz56_0 := bfz BK411 0
 have hfz56_1 := bfz BK411 1
 try go_wp2
 refine bodyPost_ret (results_cell_row rfl _ _ gb411 31 #[.slice Ao41 t417.length co41, .slice (some ad434) t420.length co45] (0, 0) _ rfl (zp BK411) Try.underlying31 rfl (by kernel_rfl)) rfl ?_
 exact ⟨_, _, zw, by (with_reducible repeat (first | apply Kd.R_alloc | apply Kd.R_drewN | apply Kd.R_drew)); exact Kd.R_mono (Kd.R_far (p := ⟨gb411, 1, none⟩) (Kd.R_far (p := ⟨gb411, 0, none⟩) (Kd.R_types HO419.out BK411.out (by decide)) (fun _ hk => hk.2) (.slice Ao41 t417.length co41)) (fun _ hk => hk.2) (.slice (some ad434) t420.length co45)) (fun _ hk => trivial), by (with_reducible repeat (first | apply Kd.S_alloc | apply Kd.S_drewN | apply Kd.S_drew)); exact Kd.S_mono (Kd.S_far (p := ⟨gb411, 1, none⟩) (Kd.S_far (p := ⟨gb411, 0, none⟩) (Kd.S_types HO422.out BK411.out (by decide)) (fun _ hk => hk.2) (.slice Ao41 t417.length co41)) (fun _ hk => hk.2) (.slice (some ad434) t420.length co45)) (fun _ hk => trivial), (zi HI0), (zb HB), (zh HK)⟩
end Go.Proofs.Ytooamacekmjpaaa.PFnVolCount
