/- The walk: each function that the law comes to as a plain Lean function, and a proof that the Go code answers so. Written by this session's program over the kit's printer. -/
import Derived.Test.YtooamacekmjpaaaZ
import Derived.Test.YtooamacekmjpaaaQFnVolForm0
import Derived.Test.YtooamacekmjpaaaQFnVolForm1
import Derived.Test.YtooamacekmjpaaaQFnVolForm8
namespace Go.Proofs.Ytooamacekmjpaaa.PFnVolForm
open Go.RowKit Go.Proofs.YtooamacekmjpaaaW.PrintWords Go.Proofs.YtooamacekmjpaaaW.PrintLast Go.Proofs.YtooamacekmjpaaaW.PrintMore
attribute [local go_sem] max2_int min2_int max_two min_two max_three min_three max_four min_four   -- for this text's walks alone
set_option linter.unusedVariables false
set_option linter.unusedSimpArgs false
/-! ### spec_l71Pool: function 50 -/
def spec_l71Pool.f (k : Nat) (s0_0 : List Int) (s0_1 : Int) : Option ((List (S55)) × (List (S38)) × Int) := (spec_l6Rd_pick.f k s0_0 s0_1 22).bind fun bt407 => ((spec_l71Ops.f k s0_0 bt407.2 (wrap64 (3 + bt407.1))).bind fun bt409 => ((spec_l6Rd_pick.f k s0_0 bt409.2.2.2 30).bind fun bt420 => (if bt420.1 = 0 then ((spec_l6Rd_pick.f k s0_0 bt420.2 (bt409.2.1.length : Int)).bind fun bt422 => ((spec_l6Rd_pick.f k s0_0 bt422.2 4).bind fun bt424 => (if 0 ≤ bt422.1 then (if bt422.1 < (bt409.2.1.length : Int) then (some ((bt409.2.1.set (bt422.1 : Int).toNat (⟨(rd_T55 bt409.2.1 bt422.1).f0, bt424.1⟩ : S55)), bt409.2.2.1, bt424.2)) else (none)) else (none)))) else (if bt420.1 = 1 then (if (bt409.2.2.1.length : Int) > 0 then ((spec_l6Rd_pick.f k s0_0 bt420.2 (bt409.2.2.1.length : Int)).bind fun bt427 => (if 0 ≤ bt427.1 then (if bt427.1 < (bt409.2.2.1.length : Int) then ((spec_l6Rd_pick.f k s0_0 bt427.2 10).bind fun bt430 => (if 0 < (((rd_T38 bt409.2.2.1 bt427.1).f1).length : Int) then (some (bt409.2.1, (bt409.2.2.1.set (bt427.1 : Int).toNat (⟨(rd_T38 bt409.2.2.1 bt427.1).f0, (((rd_T38 bt409.2.2.1 bt427.1).f1).set (0 : Int).toNat bt430.1)⟩ : S38)), bt430.2)) else (none))) else (none)) else (none))) else (some (bt409.2.1, bt409.2.2.1, bt420.2))) else (if bt420.1 = 2 then (if bt409.2.2.1.length < 3518437208883 then (some (bt409.2.1, (bt409.2.2.1 ++ [(⟨(⟨#[65]⟩ : ByteArray), (([0] : List Int))⟩ : S38)]), bt420.2)) else (none)) else (some (bt409.2.1, bt409.2.2.1, bt420.2)))))))
theorem spec_l71Pool.mono : ∀ a0 a1 k, LeO (spec_l71Pool.f k a0 a1) (spec_l71Pool.f (k + 1) a0 a1) := by
 intro a0 a1 k
 unfold spec_l71Pool.f
 exact mo2 @spec_l6Rd_pick.mono @spec_l71Ops.mono
def spec_l71Pool.T4 : Bool × List (List Nat × List Nat) := (true, [([], []), ([0], [0]), ([], []), ([], []), ([3], [3]), ([4], [4]), ([2, 5], [2, 5]), ([], []), ([7, 6], [7]), ([1, 6, 0, 1, 2, 3, 4, 5, 6, 7, 8], [1, 6]), ([9, 0, 1, 2, 3, 4, 5, 6, 7, 8], [9]), ([10, 8, 8, 0, 1, 2, 3, 4, 5, 6, 7, 8], [8, 10])])
def spec_l71Pool.B4 : List Nat := [0, 1, 0, 0, 8, 24, 60, 0, 252, 511, 1023, 2047]
theorem spec_l71Pool.tab4 : rtab .any (opsOf Try.f50 4) = spec_l71Pool.T4 := by kernel_rfl
theorem spec_l71Pool.bits4 : waitsOk spec_l71Pool.T4.2 spec_l71Pool.B4 = true := by kernel_rfl
def spec_l71Pool.T8 : Bool × List (List Nat × List Nat) := (true, [([], []), ([0], [0]), ([], []), ([1, 2], [1, 2]), ([3], [3]), ([4], [4]), ([], []), ([6], [6]), ([5, 0, 1, 2, 3, 4, 5, 6, 7], [5]), ([8, 7, 7, 0, 1, 2, 3, 4, 5, 6, 7], [7, 8])])
def spec_l71Pool.B8 : List Nat := [0, 1, 0, 7, 15, 31, 0, 64, 255, 511]
theorem spec_l71Pool.tab8 : rtab .any (opsOf Try.f50 8) = spec_l71Pool.T8 := by kernel_rfl
theorem spec_l71Pool.bits8 : waitsOk spec_l71Pool.T8.2 spec_l71Pool.B8 = true := by kernel_rfl
set_option maxHeartbeats 8000000 in
set_option maxRecDepth 100000 in
theorem spec_l71Pool.calls (k : Nat) (g : Nat) (s0_0 : List Int) (s0_1 : Int) (r1 : List (S55)) (r2 : List (S38)) (r3 : Int) (w0 w : World) (hI : IsS93 w0 w g s0_0 s0_1) (hB : Below w0.heap.size w0 w) (h : spec_l71Pool.f k s0_0 s0_1 = some (r1, r2, r3)) :
 Calls Try.prog 50 #[.pointer (some ⟨g, 0, none⟩)] w fun e w' => ∃ v0_ v1_ : Value, e = .returned (.agg #[v0_, v1_]) ∧ Kd.R k55 55 w' w.heap.size (fun _ => True) v0_ r1 ∧ Kd.S k38 38 w' w.heap.size (fun _ => True) v1_ r2 ∧ IsS93 w0 w' g s0_0 r3 ∧ Below w0.heap.size w0 w' ∧ KeepBut w w' g none := by
 have hu31 := Try.underlying31
 have hu38 := Try.underlying38
 have HI0 := am hI
 have HK := am (KeepBut.refl w g none)
 have HL := am hB.size
 clear hI
 have HW0 := am hB.size
 have HB := am hB
 clear hB
 have H : ((spec_l6Rd_pick.f k s0_0 s0_1 22).bind fun bt407 => ((spec_l71Ops.f k s0_0 bt407.2 (wrap64 (3 + bt407.1))).bind fun bt409 => ((spec_l6Rd_pick.f k s0_0 bt409.2.2.2 30).bind fun bt420 => (if bt420.1 = 0 then ((spec_l6Rd_pick.f k s0_0 bt420.2 (bt409.2.1.length : Int)).bind fun bt422 => ((spec_l6Rd_pick.f k s0_0 bt422.2 4).bind fun bt424 => (if 0 ≤ bt422.1 then (if bt422.1 < (bt409.2.1.length : Int) then (some ((bt409.2.1.set (bt422.1 : Int).toNat (⟨(rd_T55 bt409.2.1 bt422.1).f0, bt424.1⟩ : S55)), bt409.2.2.1, bt424.2)) else (none)) else (none)))) else (if bt420.1 = 1 then (if (bt409.2.2.1.length : Int) > 0 then ((spec_l6Rd_pick.f k s0_0 bt420.2 (bt409.2.2.1.length : Int)).bind fun bt427 => (if 0 ≤ bt427.1 then (if bt427.1 < (bt409.2.2.1.length : Int) then ((spec_l6Rd_pick.f k s0_0 bt427.2 10).bind fun bt430 => (if 0 < (((rd_T38 bt409.2.2.1 bt427.1).f1).length : Int) then (some (bt409.2.1, (bt409.2.2.1.set (bt427.1 : Int).toNat (⟨(rd_T38 bt409.2.2.1 bt427.1).f0, (((rd_T38 bt409.2.2.1 bt427.1).f1).set (0 : Int).toNat bt430.1)⟩ : S38)), bt430.2)) else (none))) else (none)) else (none))) else (some (bt409.2.1, bt409.2.2.1, bt420.2))) else (if bt420.1 = 2 then (if bt409.2.2.1.length < 3518437208883 then (some (bt409.2.1, (bt409.2.2.1 ++ [(⟨(⟨#[65]⟩ : ByteArray), (([0] : List Int))⟩ : S38)]), bt420.2)) else (none)) else (some (bt409.2.1, bt409.2.2.1, bt420.2)))))))) = some (r1, r2, r3) := h
 clear h
 replace H := obs H
 obtain ⟨⟨t407, t408⟩, A20, H⟩ := H
 replace H : ((spec_l71Ops.f k s0_0 t408 (wrap64 (3 + t407))).bind fun bt409 => ((spec_l6Rd_pick.f k s0_0 bt409.2.2.2 30).bind fun bt420 => (if bt420.1 = 0 then ((spec_l6Rd_pick.f k s0_0 bt420.2 (bt409.2.1.length : Int)).bind fun bt422 => ((spec_l6Rd_pick.f k s0_0 bt422.2 4).bind fun bt424 => (if 0 ≤ bt422.1 then (if bt422.1 < (bt409.2.1.length : Int) then (some ((bt409.2.1.set (bt422.1 : Int).toNat (⟨(rd_T55 bt409.2.1 bt422.1).f0, bt424.1⟩ : S55)), bt409.2.2.1, bt424.2)) else (none)) else (none)))) else (if bt420.1 = 1 then (if (bt409.2.2.1.length : Int) > 0 then ((spec_l6Rd_pick.f k s0_0 bt420.2 (bt409.2.2.1.length : Int)).bind fun bt427 => (if 0 ≤ bt427.1 then (if bt427.1 < (bt409.2.2.1.length : Int) then ((spec_l6Rd_pick.f k s0_0 bt427.2 10).bind fun bt430 => (if 0 < (((rd_T38 bt409.2.2.1 bt427.1).f1).length : Int) then (some (bt409.2.1, (bt409.2.2.1.set (bt427.1 : Int).toNat (⟨(rd_T38 bt409.2.2.1 bt427.1).f0, (((rd_T38 bt409.2.2.1 bt427.1).f1).set (0 : Int).toNat bt430.1)⟩ : S38)), bt430.2)) else (none))) else (none)) else (none))) else (some (bt409.2.1, bt409.2.2.1, bt420.2))) else (if bt420.1 = 2 then (if bt409.2.2.1.length < 3518437208883 then (some (bt409.2.1, (bt409.2.2.1 ++ [(⟨(⟨#[65]⟩ : ByteArray), (([0] : List Int))⟩ : S38)]), bt420.2)) else (none)) else (some (bt409.2.1, bt409.2.2.1, bt420.2))))))) = some (r1, r2, r3) := H
 have A2 := am A20
 clear A20
 replace H := obs H
 obtain ⟨⟨t409, t412, t415, t418⟩, A30, H⟩ := H
 replace H : ((spec_l6Rd_pick.f k s0_0 t418 30).bind fun bt420 => (if bt420.1 = 0 then ((spec_l6Rd_pick.f k s0_0 bt420.2 (t412.length : Int)).bind fun bt422 => ((spec_l6Rd_pick.f k s0_0 bt422.2 4).bind fun bt424 => (if 0 ≤ bt422.1 then (if bt422.1 < (t412.length : Int) then (some ((t412.set (bt422.1 : Int).toNat (⟨(rd_T55 t412 bt422.1).f0, bt424.1⟩ : S55)), t415, bt424.2)) else (none)) else (none)))) else (if bt420.1 = 1 then (if (t415.length : Int) > 0 then ((spec_l6Rd_pick.f k s0_0 bt420.2 (t415.length : Int)).bind fun bt427 => (if 0 ≤ bt427.1 then (if bt427.1 < (t415.length : Int) then ((spec_l6Rd_pick.f k s0_0 bt427.2 10).bind fun bt430 => (if 0 < (((rd_T38 t415 bt427.1).f1).length : Int) then (some (t412, (t415.set (bt427.1 : Int).toNat (⟨(rd_T38 t415 bt427.1).f0, (((rd_T38 t415 bt427.1).f1).set (0 : Int).toNat bt430.1)⟩ : S38)), bt430.2)) else (none))) else (none)) else (none))) else (some (t412, t415, bt420.2))) else (if bt420.1 = 2 then (if t415.length < 3518437208883 then (some (t412, (t415 ++ [(⟨(⟨#[65]⟩ : ByteArray), (([0] : List Int))⟩ : S38)]), bt420.2)) else (none)) else (some (t412, t415, bt420.2)))))) = some (r1, r2, r3) := H
 have A3 := am A30
 clear A30
 replace H := obs H
 obtain ⟨⟨t420, t421⟩, A40, H⟩ := H
 replace H : (if t420 = 0 then ((spec_l6Rd_pick.f k s0_0 t421 (t412.length : Int)).bind fun bt422 => ((spec_l6Rd_pick.f k s0_0 bt422.2 4).bind fun bt424 => (if 0 ≤ bt422.1 then (if bt422.1 < (t412.length : Int) then (some ((t412.set (bt422.1 : Int).toNat (⟨(rd_T55 t412 bt422.1).f0, bt424.1⟩ : S55)), t415, bt424.2)) else (none)) else (none)))) else (if t420 = 1 then (if (t415.length : Int) > 0 then ((spec_l6Rd_pick.f k s0_0 t421 (t415.length : Int)).bind fun bt427 => (if 0 ≤ bt427.1 then (if bt427.1 < (t415.length : Int) then ((spec_l6Rd_pick.f k s0_0 bt427.2 10).bind fun bt430 => (if 0 < (((rd_T38 t415 bt427.1).f1).length : Int) then (some (t412, (t415.set (bt427.1 : Int).toNat (⟨(rd_T38 t415 bt427.1).f0, (((rd_T38 t415 bt427.1).f1).set (0 : Int).toNat bt430.1)⟩ : S38)), bt430.2)) else (none))) else (none)) else (none))) else (some (t412, t415, t421))) else (if t420 = 2 then (if t415.length < 3518437208883 then (some (t412, (t415 ++ [(⟨(⟨#[65]⟩ : ByteArray), (([0] : List Int))⟩ : S38)]), t421)) else (none)) else (some (t412, t415, t421))))) = some (r1, r2, r3) := H
 have A4 := am A40
 clear A40
 by_cases c5 : t420 = 0
 · rw [if_pos c5] at H
   have c5b0 : (t420 == 0) = true := beq_iff_eq.mpr c5
   have c5b1 : (t420 != 0) = false := bne_eq_false_iff_eq.mpr c5
   clear c5
   replace H := obs H
   obtain ⟨⟨t422, t423⟩, A60, H⟩ := H
   replace H : ((spec_l6Rd_pick.f k s0_0 t423 4).bind fun bt424 => (if 0 ≤ t422 then (if t422 < (t412.length : Int) then (some ((t412.set (t422 : Int).toNat (⟨(rd_T55 t412 t422).f0, bt424.1⟩ : S55)), t415, bt424.2)) else (none)) else (none))) = some (r1, r2, r3) := H
   have A6 := am A60
   clear A60
   replace H := obs H
   obtain ⟨⟨t424, t425⟩, A70, H⟩ := H
   replace H : (if 0 ≤ t422 then (if t422 < (t412.length : Int) then (some ((t412.set (t422 : Int).toNat (⟨(rd_T55 t412 t422).f0, t424⟩ : S55)), t415, t425)) else (none)) else (none)) = some (r1, r2, r3) := H
   have A7 := am A70
   clear A70
   by_cases c8 : 0 ≤ t422
   rotate_left
   · rw [if_neg c8] at H
     exact absurd H (by simp)
   rw [if_pos c8] at H
   have c8b0 : decide (0 ≤ t422) = true := decide_eq_true c8
   clear c8
   by_cases c9 : t422 < (t412.length : Int)
   rotate_left
   · rw [if_neg c9] at H
     exact absurd H (by simp)
   rw [if_pos c9] at H
   have c9b0 : decide (t422 < (t412.length : Int)) = true := decide_eq_true c9
   clear c9
   obtain ⟨y426, hy426⟩ : ∃ y_ : List (S55), y_ = (t412.set (t422 : Int).toNat (⟨(rd_T55 t412 t422).f0, t424⟩ : S55)) := ⟨_, rfl⟩
   replace H : (some (y426, t415, t425)) = some (r1, r2, r3) := hY hy426 H
   have Ny426 := am hy426
   clear hy426
   simp only [Option.some.injEq, Prod.mk.injEq] at H
   obtain ⟨rfl, rfl, rfl⟩ := H
   go_enter Try.func50, Try.ntmps50
   try go_wp2_with (first | ((with_reducible refine gate_dst (N := 2) rfl ?_); refine bx 31 #[.slice none 0 0, .slice none 0 0] ?_; intro gb406 hg w11 hbox hb; replace HB := am (below_step (zb HB) hb); have BK406 := am (hbox); have GW406 := am (zm hg (zh HK)); have GE406 := am ((Nat.le_trans HW0.out (zm hg (zh HK)))); replace HK := am (KeepBut.trans (zh HK) (KeepBut.of_below hb g none) (.inl rfl)); have NB0_406 := am (ix hg (zi HI0)); have NB406_0 := am (iy hg (zi HI0)); replace HI0 := am (IsS93.below (zi HI0) hb); clear hb hbox hg) | ((with_reducible refine gate_callee (f := 51) rfl ?_); refine gl Try.func51 9 #[.pointer (some ⟨g, 0, none⟩), .int .i64 22] rfl rfl rfl ?_; (with_reducible refine (spec_l6Rd_pick.calls k g s0_0 s0_1 22 t407 t408 w0 _ ?side1 ?side2 A2.out).mono ?_); (case side1 => exact zi HI0); (case side2 => exact zb HB); rintro e w12 ⟨rfl, hi, hb, hk⟩; refine ⟨_, rfl, ?_⟩; replace BK406 := am (KeepBut.blk hk (zk BK406) NB406_0.out (by simp)); replace HK := am (KeepBut.trans (zh HK) hk (.inl rfl)); replace HB := am (hb); replace HI0 := am (hi); (try clear hb); (try clear hb2); (try clear hk); (try clear hi)) | ((with_reducible refine gate_callee (f := 73) rfl ?_); refine gl Try.func73 11 #[.pointer (some ⟨g, 0, none⟩), .int .i64 (wrap64 (3 + t407))] rfl rfl rfl ?_; (with_reducible refine (spec_l71Ops.calls k g s0_0 t408 (wrap64 (3 + t407)) t409 t412 t415 t418 w0 _ ?side1 ?side2 A3.out).mono ?_); (case side1 => exact zi HI0); (case side2 => exact zb HB); rintro e w13 ⟨v410, v413, v416, rfl, ho0, ho1, ho2, hi, hb, hk⟩; refine ⟨_, rfl, ?_⟩; replace BK406 := am (KeepBut.blk hk (zk BK406) NB406_0.out (by simp)); have HO411 := am (Kd.R_lower ho0 (keep_size (zh HK))); have HO414 := am (Kd.R_lower ho1 (keep_size (zh HK))); have HO417 := am (Kd.S_lower ho2 (keep_size (zh HK))); replace HK := am (KeepBut.trans (zh HK) hk (.inl rfl)); replace HB := am (hb); replace HI0 := am (hi); (try clear hb); (try clear hb2); (try clear hk); (try clear hi); (try clear ho0); (try clear ho1); (try clear ho2)) | ((with_reducible refine gate_dst (N := 4) rfl ?_); refine bx 31 #[.slice none 0 0, .slice none 0 0] ?_; intro gb419 hg w14 hbox hb; replace HO411 := am (Kd.R_below (zr HO411) hb); replace HO414 := am (Kd.R_below (zr HO414) hb); replace HO417 := am (Kd.S_below (zs HO417) hb); replace HB := am (below_step (zb HB) hb); have BK419 := am (hbox); have GW419 := am (zm hg (zh HK)); have GE419 := am ((Nat.le_trans HW0.out (zm hg (zh HK)))); replace HK := am (KeepBut.trans (zh HK) (KeepBut.of_below hb g none) (.inl rfl)); have NB406_419 := am (zx hg (zk BK406)); have NB419_406 := am (zy hg (zk BK406)); replace BK406 := am (blk_below (zk BK406) hb); have NB0_419 := am (ix hg (zi HI0)); have NB419_0 := am (iy hg (zi HI0)); replace HI0 := am (IsS93.below (zi HI0) hb); clear hb hbox hg; obtain ⟨Ao15, co15, eo15⟩ := Kd.R_slice HO414.out; subst eo15; have hnb16 := NB419_406.out; have hnc16 := NB406_419.out; have hnb17 := NB419_0.out; have hnc17 := NB0_419.out; have hcz18_0 := ce0 BK419; have hcz18_1 := ce1 BK419; have hfz18_0 := bfz BK419 0; have hfz18_1 := bfz BK419 1; obtain ⟨Ao19, co19, eo19⟩ := Kd.S_slice HO417.out; subst eo19) | ((with_reducible refine gate_callee (f := 51) rfl ?_); refine gl Try.func51 15 #[.pointer (some ⟨g, 0, none⟩), .int .i64 30] rfl rfl rfl ?_; (with_reducible refine (spec_l6Rd_pick.calls k g s0_0 t418 30 t420 t421 w0 _ ?side1 ?side2 A4.out).mono ?_); (case side1 => exact zi HI0); (case side2 => exact zb HB); rintro e w20 ⟨rfl, hi, hb, hk⟩; refine ⟨_, rfl, ?_⟩; replace BK406 := am (KeepBut.blk hk (zk BK406) NB406_0.out (by simp)); replace HO411 := am (Kd.R_mono (Kd.R_keep (IsS93.apart (zi HI0) (rf HO411 BK419) (by decide)) hk (fun _ h => h.2)) (fun _ h => h.1)); replace HO414 := am (Kd.R_mono (Kd.R_keep (IsS93.apart (zi HI0) (rf HO414 BK419) (by decide)) hk (fun _ h => h.2)) (fun _ h => h.1)); replace HO417 := am (Kd.S_mono (Kd.S_keep (IsS93.apartS (zi HI0) (sf HO417 BK419) (by decide)) hk (fun _ h => h.2)) (fun _ h => h.1)); replace BK419 := am (KeepBut.blk hk (g' := gb419) (o := .cells #[.slice Ao15 t412.length co15, .slice Ao19 t415.length co19] 31 (0, 0)) (zp BK419) NB419_0.out (by simp)); replace HK := am (KeepBut.trans (zh HK) hk (.inl rfl)); replace HB := am (hb); replace HI0 := am (hi); (try clear hb); (try clear hb2); (try clear hk); (try clear hi)))
   replace HO411 := am (Kd.R_drew HO411.out)
   replace HO414 := am (Kd.R_drew HO414.out)
   replace HO417 := am (Kd.S_drew HO417.out)
   replace BK406 := am (blk_drew BK406.out)
   replace BK419 := am (blk_drew BK419.out)
   replace HI0 := am (IsS93.drew HI0.out)
   replace HK := am (keep_drew HK.out)
   replace HB := am (below_drew1 HB.out)
   refine start_ (n := 12) (S := fun w' => w'.cell? ⟨gb419, 0, none⟩ = some (.slice Ao15 t412.length co15) ∧ w'.cell? ⟨gb419, 1, none⟩ = some (.slice Ao19 t415.length co19)) (ds := [11]) (bs 12 0) (by kernel_rfl) rfl rfl ⟨ce0 BK419, ce1 BK419⟩ (fun hHeld => ?_); refine with_tabW spec_l71Pool.tab4 spec_l71Pool.bits4 (fun HT_ HW_ => ?_)
   generalize w20.drew = w21 at HO411 HO414 HO417 BK406 BK419 HI0 HK HB hHeld ⊢
   refine pu 0 18 12 1 rfl rfl ?_
   refine pu 2 20 12 5 rfl rfl ?_
   refine pu 3 21 12 13 rfl rfl ?_
   refine pu 7 25 12 141 rfl rfl ?_
   refine ta2 1 19 12 143 rfl rfl hHeld ?_
   refine ta2 4 22 12 159 rfl rfl hHeld ?_
   refine pu 5 23 12 191 rfl rfl ?_
   refine oz 6 12 255 rfl rfl (fun K hK => ?_)
   refine gs Try.func51 #[.pointer (some ⟨g, 0, none⟩), .int .i64 (t412.length : Int)] rfl rfl ?_
   with_reducible refine (spec_l6Rd_pick.calls k g s0_0 t421 (t412.length : Int) t422 t423 w0 _ ?side1 ?side2 A6.out).mono ?_
   (case side1 => exact zi HI0)
   (case side2 => exact zb HB)
   rintro e w22 ⟨rfl, hi, hb, hk⟩
   refine ⟨_, rfl, ?_⟩
   replace BK406 := am (KeepBut.blk hk (zk BK406) NB406_0.out (by simp))
   replace HO411 := am (Kd.R_mono (Kd.R_keep (IsS93.apart (zi HI0) (zr HO411) (by decide)) hk (fun _ h => h.2)) (fun _ h => h.1))
   replace HO414 := am (Kd.R_mono (Kd.R_keep (IsS93.apart (zi HI0) (zr HO414) (by decide)) hk (fun _ h => h.2)) (fun _ h => h.1))
   replace HO417 := am (Kd.S_mono (Kd.S_keep (IsS93.apartS (zi HI0) (zs HO417) (by decide)) hk (fun _ h => h.2)) (fun _ h => h.1))
   replace BK419 := am (KeepBut.blk hk (zk BK419) NB419_0.out (by simp))
   replace HK := am (KeepBut.trans (zh HK) hk (.inl rfl))
   replace HB := am (hb)
   replace HI0 := am (hi)
   (try clear hb)
   (try clear hb2)
   (try clear hk)
   (try clear hi)
   refine hK.out _ _ ⟨ce0 BK419, ce1 BK419⟩ (fun hHeld => ?_)
   clear hK K
   refine norm_ (a' := ?_) ?_ ?_
   rotate_left
   · show Act.put _ (some 24) _ = _
     simp only [Act.put, List.setIfInBounds_toArray, List.set_cons_zero, List.set_cons_succ, i64_w, i32_w]
     rfl
   refine oz 8 12 511 rfl rfl (fun K hK => ?_)
   refine gs Try.func51 #[.pointer (some ⟨g, 0, none⟩), .int .i64 4] rfl rfl ?_
   with_reducible refine (spec_l6Rd_pick.calls k g s0_0 t423 4 t424 t425 w0 _ ?side1 ?side2 A7.out).mono ?_
   (case side1 => exact zi HI0)
   (case side2 => exact zb HB)
   rintro e w23 ⟨rfl, hi, hb, hk⟩
   refine ⟨_, rfl, ?_⟩
   replace BK406 := am (KeepBut.blk hk (zk BK406) NB406_0.out (by simp))
   replace HO411 := am (Kd.R_mono (Kd.R_keep (IsS93.apart (zi HI0) (zr HO411) (by decide)) hk (fun _ h => h.2)) (fun _ h => h.1))
   replace HO414 := am (Kd.R_mono (Kd.R_keep (IsS93.apart (zi HI0) (zr HO414) (by decide)) hk (fun _ h => h.2)) (fun _ h => h.1))
   replace HO417 := am (Kd.S_mono (Kd.S_keep (IsS93.apartS (zi HI0) (zs HO417) (by decide)) hk (fun _ h => h.2)) (fun _ h => h.1))
   replace BK419 := am (KeepBut.blk hk (zk BK419) NB419_0.out (by simp))
   replace HK := am (KeepBut.trans (zh HK) hk (.inl rfl))
   replace HB := am (hb)
   replace HI0 := am (hi)
   (try clear hb)
   (try clear hb2)
   (try clear hk)
   (try clear hi)
   have p10 : 0 ≤ (t422 : Int) := of_decide_eq_true zl
   have q10 : (t422 : Int) < ((t412.length : Int) : Int) := of_decide_eq_true zl
   obtain ⟨go10, co10, eo10, gb10, gl10, cl10, HG10⟩ := Kd.R_form HO414.out (by omega)
   (first | cases eo10 | (injection eo10 with ea_ en_ ec_; (first | subst ea_ | (injection ea_ with ea_; subst ea_)); subst ec_; clear en_))
   have GB10 := am gb10
   have GG10 := am HG10
   clear gb10 gl10 HG10
   obtain ⟨ce10, hcl10, hM10, hcc10, hfr10⟩ := Kd.R_elem HO414.out z55 (t422 : Int) p10 q10
   obtain rfl := k55_openM hM10
   have hx10_0 : World.cell? _ ⟨go10, (t422 : Int).toNat * 2, none⟩ = some (.string ((rd_T55 t412 t422).f0)) := hcc10 0 _ rfl
   have hx10_1 : World.cell? _ ⟨go10, (t422 : Int).toNat * 2 + 1, none⟩ = some (.int .i64 ((rd_T55 t412 t422).f1)) := hcc10 1 _ rfl
   have hf10_0 : World.frozen? _ ⟨go10, (t422 : Int).toNat * 2, none⟩ = false := hfr10 0
   have hf10_1 : World.frozen? _ ⟨go10, (t422 : Int).toNat * 2 + 1, none⟩ = false := hfr10 1
   clear hcl10 hcc10 hfr10 hM10
   replace p10 := eq_true p10
   replace q10 := eq_true q10
   have HN0_go10 := am (show g ≠ go10 from by have h_ := IsS93.own_ne HI0.out HO414.out (by decide); intro e_; exact h_ (by rw [e_]; rfl))
   obtain ⟨ce24, hcl24, hM24, hcc24, hfr24⟩ := Kd.R_elem HO414.out z55 (t422 : Int) (of_decide_eq_true zl) (by have h_ : (t422 : Int) < ((t412.length : Int) : Int) := of_decide_eq_true zl; first | exact h_ | (have e_ := (Kd.R_reads' HO414.out).1; omega) | simpa using h_)
   obtain rfl := k55_openM hM24
   have HP24 := (Kd.R_seg HO414.out (t422 : Int) (of_decide_eq_true zl) (by have h_ : (t422 : Int) < ((t412.length : Int) : Int) := of_decide_eq_true zl; first | exact h_ | (have e_ := (Kd.R_reads' HO414.out).1; omega) | simpa using h_) (seg := [.int .i64 t424]) (j := 1) hcl24 hcc24 (show 2 ≤ 2 from by decide) (x' := (⟨(rd_T55 t412 t422).f0, t424⟩ : S55)) (k55_mkM _ _ _ (⟨(rd_T55 t412 t422).f0, t424⟩ : S55) ) (fun _ hk => hk)).1
   rw [← Ny426.out] at HP24
   have HQ24 := am HP24
   clear hcl24 hcc24 hfr24 hM24 HP24
   refine hK.out _ _ ⟨ce0 BK419, ce1 BK419⟩ (fun hHeld => ?_)
   clear hK K
   refine norm_ (a' := ?_) ?_ ?_
   rotate_left
   · show Act.put _ (some 26) _ = _
     simp only [Act.put, List.setIfInBounds_toArray, List.set_cons_zero, List.set_cons_succ, i64_w, i32_w]
     rfl
   refine pu 9 27 12 1023 rfl rfl ?_
   refine pu 10 28 12 2047 rfl rfl ?_
   refine la 11 12 4095 rfl rfl (fun K hK => ?_)
   refine skip_ (w1 := ?_) (by rfl) rfl ?_ ?_
   rotate_left
   · go_simp
     rfl
   refine hK.out _ _ ?_
   clear hK K
   refine done_ (done_of HT_.out (by kernel_rfl)) ?_
   have n0_ : Aside0 (Kd.R k103 103 (w23.setCell ⟨go10, (t422 : Int).toNat * 2 + 1, none⟩ (.int .i64 t424)) w.heap.size (fun _ => True) v410 t409) := ⟨by (with_reducible repeat (first | apply Kd.R_alloc | apply Kd.R_drewN | apply Kd.R_drew)); exact Kd.R_mono (Kd.R_far (p := ⟨go10, (t422 : Int).toNat * 2 + 1, none⟩) (Kd.R_types HO411.out GG10.out (by decide)) (fun _ hk => hk.2) (.int .i64 t424)) (fun _ hk => trivial)⟩
   have n1_ : Aside0 (Kd.R k55 55 (w23.setCell ⟨go10, (t422 : Int).toNat * 2 + 1, none⟩ (.int .i64 t424)) w.heap.size (fun _ => True) (.slice (some ⟨go10, 0, none⟩) t412.length co15) y426) := ⟨zr HQ24⟩
   have n2_ : Aside0 (Kd.S k38 38 (w23.setCell ⟨go10, (t422 : Int).toNat * 2 + 1, none⟩ (.int .i64 t424)) w.heap.size (fun _ => True) (.slice Ao19 t415.length co19) t415) := ⟨by (with_reducible repeat (first | apply Kd.S_alloc | apply Kd.S_drewN | apply Kd.S_drew)); exact Kd.S_mono (Kd.S_far (p := ⟨go10, (t422 : Int).toNat * 2 + 1, none⟩) (Kd.S_types HO417.out GG10.out (by decide)) (fun _ hk => hk.2) (.int .i64 t424)) (fun _ hk => trivial)⟩
   have n3_ : Aside0 ((w23.setCell ⟨go10, (t422 : Int).toNat * 2 + 1, none⟩ (.int .i64 t424)).heap[gb406]? = some (.cells #[.slice none 0 0, .slice none 0 0] 31 (0, 0))) := ⟨by (with_reducible repeat (first | refine blk_drewN ?_ _ | refine blk_drew ?_ | refine blk_alloc ?_ _)); refine blk_far ?_ (by have h_ := Kd.R_ne HO414.out BK406.out (by decide); intro e_; exact h_ (by rw [e_]; rfl)) _; (with_reducible repeat (first | refine blk_drewN ?_ _ | refine blk_drew ?_ | refine blk_alloc ?_ _)); exact BK406.out⟩
   have n4_ : Aside0 ((w23.setCell ⟨go10, (t422 : Int).toNat * 2 + 1, none⟩ (.int .i64 t424)).heap[gb419]? = some (.cells #[.slice (some ⟨go10, 0, none⟩) t412.length co15, .slice Ao19 t415.length co19] 31 (0, 0))) := ⟨by (with_reducible repeat (first | refine blk_drewN ?_ _ | refine blk_drew ?_ | refine blk_alloc ?_ _)); refine blk_far ?_ (by have h_ := Kd.R_ne HO414.out BK419.out (by decide); intro e_; exact h_ (by rw [e_]; rfl)) _; (with_reducible repeat (first | refine blk_drewN ?_ _ | refine blk_drew ?_ | refine blk_alloc ?_ _)); exact BK419.out⟩
   have n5_ : Aside0 (IsS93 w0 (w23.setCell ⟨go10, (t422 : Int).toNat * 2 + 1, none⟩ (.int .i64 t424)) g s0_0 t425) := ⟨zi HI0⟩
   have n6_ : Aside0 (KeepBut w (w23.setCell ⟨go10, (t422 : Int).toNat * 2 + 1, none⟩ (.int .i64 t424)) g none) := ⟨zh HK⟩
   have n7_ : Aside0 (Below w0.heap.size w0 (w23.setCell ⟨go10, (t422 : Int).toNat * 2 + 1, none⟩ (.int .i64 t424))) := ⟨by repeat (first | (with_reducible first | exact HB.out | apply below_alloc | apply pw_below_drewN | apply below_drew1 | refine below_set ?_ (Nat.le_trans HL.out GB10.out) | refine below_set ?_ (IsS93.ge HI0.out) | refine below_set ?_ GE406.out | refine below_set ?_ GE419.out) | exact HB.out)⟩
   (try clear HO411)
   (try clear HO414)
   (try clear HO417)
   (try clear BK406)
   (try clear BK419)
   (try clear HI0)
   (try clear HK)
   (try clear HB)
   generalize (w23.setCell ⟨go10, (t422 : Int).toNat * 2 + 1, none⟩ (.int .i64 t424)) = w25 at n0_ n1_ n2_ n3_ n4_ n5_ n6_ n7_ ⊢
   have HO411 := n0_
   have HO414 := n1_
   have HO417 := n2_
   have BK406 := n3_
   have BK419 := n4_
   have HI0 := n5_
   have HK := n6_
   have HB := n7_
   clear n0_ n1_ n2_ n3_ n4_ n5_ n6_ n7_
   have hcz26_0 := ce0 BK419
   have hcz26_1 := ce1 BK419
   have hfz26_0 := bfz BK419 0
   have hfz26_1 := bfz BK419 1
   have hnb27 := NB406_0.out
   have hnc27 := NB0_406.out
   have hcz28_0 := ce0 BK406
   have hcz28_1 := ce1 BK406
   have hfz28_0 := bfz BK406 0
   have hfz28_1 := bfz BK406 1
   try go_wp2
   refine bodyPost_ret (results_cell_row rfl _ _ gb406 31 #[.slice (some ⟨go10, 0, none⟩) t412.length co15, .slice Ao19 t415.length co19] (0, 0) _ rfl (zp BK406) Try.underlying31 rfl (by kernel_rfl)) rfl ?_
   exact ⟨_, _, zw, by (with_reducible repeat (first | apply Kd.R_alloc | apply Kd.R_drewN | apply Kd.R_drew)); exact Kd.R_mono (Kd.R_far (p := ⟨gb406, 1, none⟩) (Kd.R_far (p := ⟨gb406, 0, none⟩) (Kd.R_types HO414.out BK406.out (by decide)) (fun _ hk => hk.2) (.slice (some ⟨go10, 0, none⟩) t412.length co15)) (fun _ hk => hk.2) (.slice Ao19 t415.length co19)) (fun _ hk => trivial), by (with_reducible repeat (first | apply Kd.S_alloc | apply Kd.S_drewN | apply Kd.S_drew)); exact Kd.S_mono (Kd.S_far (p := ⟨gb406, 1, none⟩) (Kd.S_far (p := ⟨gb406, 0, none⟩) (Kd.S_types HO417.out BK406.out (by decide)) (fun _ hk => hk.2) (.slice (some ⟨go10, 0, none⟩) t412.length co15)) (fun _ hk => hk.2) (.slice Ao19 t415.length co19)) (fun _ hk => trivial), (zi HI0), (zb HB), (zh HK)⟩
 rw [if_neg c5] at H
 have c5b0 : (t420 == 0) = false := beq_eq_false_iff_ne.mpr c5
 have c5b1 : (t420 != 0) = true := bne_iff_ne.mpr c5
 by_cases c29 : t420 = 1
 rotate_left
 · rw [if_neg c29] at H
   have c29b0 : (t420 == 1) = false := beq_eq_false_iff_ne.mpr c29
   have c29b1 : (t420 != 1) = true := bne_iff_ne.mpr c29
   by_cases c70 : t420 = 2
   rotate_left
   · rw [if_neg c70] at H
     have c70b0 : (t420 == 2) = false := beq_eq_false_iff_ne.mpr c70
     have c70b1 : (t420 != 2) = true := bne_iff_ne.mpr c70
     simp only [Option.some.injEq, Prod.mk.injEq] at H
     obtain ⟨rfl, rfl, rfl⟩ := H
     go_enter Try.func50, Try.ntmps50
     go_wp2_with (first | ((with_reducible refine gate_dst (N := 2) rfl ?_); refine bx 31 #[.slice none 0 0, .slice none 0 0] ?_; intro gb406 hg w91 hbox hb; replace HB := am (below_step (zb HB) hb); have BK406 := am (hbox); have GW406 := am (zm hg (zh HK)); have GE406 := am ((Nat.le_trans HW0.out (zm hg (zh HK)))); replace HK := am (KeepBut.trans (zh HK) (KeepBut.of_below hb g none) (.inl rfl)); have NB0_406 := am (ix hg (zi HI0)); have NB406_0 := am (iy hg (zi HI0)); replace HI0 := am (IsS93.below (zi HI0) hb); clear hb hbox hg) | ((with_reducible refine gate_callee (f := 51) rfl ?_); refine gl Try.func51 9 #[.pointer (some ⟨g, 0, none⟩), .int .i64 22] rfl rfl rfl ?_; (with_reducible refine (spec_l6Rd_pick.calls k g s0_0 s0_1 22 t407 t408 w0 _ ?side1 ?side2 A2.out).mono ?_); (case side1 => exact zi HI0); (case side2 => exact zb HB); rintro e w92 ⟨rfl, hi, hb, hk⟩; refine ⟨_, rfl, ?_⟩; replace BK406 := am (KeepBut.blk hk (zk BK406) NB406_0.out (by simp)); replace HK := am (KeepBut.trans (zh HK) hk (.inl rfl)); replace HB := am (hb); replace HI0 := am (hi); (try clear hb); (try clear hb2); (try clear hk); (try clear hi)) | ((with_reducible refine gate_callee (f := 73) rfl ?_); refine gl Try.func73 11 #[.pointer (some ⟨g, 0, none⟩), .int .i64 (wrap64 (3 + t407))] rfl rfl rfl ?_; (with_reducible refine (spec_l71Ops.calls k g s0_0 t408 (wrap64 (3 + t407)) t409 t412 t415 t418 w0 _ ?side1 ?side2 A3.out).mono ?_); (case side1 => exact zi HI0); (case side2 => exact zb HB); rintro e w93 ⟨v410, v413, v416, rfl, ho0, ho1, ho2, hi, hb, hk⟩; refine ⟨_, rfl, ?_⟩; replace BK406 := am (KeepBut.blk hk (zk BK406) NB406_0.out (by simp)); have HO411 := am (Kd.R_lower ho0 (keep_size (zh HK))); have HO414 := am (Kd.R_lower ho1 (keep_size (zh HK))); have HO417 := am (Kd.S_lower ho2 (keep_size (zh HK))); replace HK := am (KeepBut.trans (zh HK) hk (.inl rfl)); replace HB := am (hb); replace HI0 := am (hi); (try clear hb); (try clear hb2); (try clear hk); (try clear hi); (try clear ho0); (try clear ho1); (try clear ho2)) | ((with_reducible refine gate_dst (N := 4) rfl ?_); refine bx 31 #[.slice none 0 0, .slice none 0 0] ?_; intro gb419 hg w94 hbox hb; replace HO411 := am (Kd.R_below (zr HO411) hb); replace HO414 := am (Kd.R_below (zr HO414) hb); replace HO417 := am (Kd.S_below (zs HO417) hb); replace HB := am (below_step (zb HB) hb); have BK419 := am (hbox); have GW419 := am (zm hg (zh HK)); have GE419 := am ((Nat.le_trans HW0.out (zm hg (zh HK)))); replace HK := am (KeepBut.trans (zh HK) (KeepBut.of_below hb g none) (.inl rfl)); have NB406_419 := am (zx hg (zk BK406)); have NB419_406 := am (zy hg (zk BK406)); replace BK406 := am (blk_below (zk BK406) hb); have NB0_419 := am (ix hg (zi HI0)); have NB419_0 := am (iy hg (zi HI0)); replace HI0 := am (IsS93.below (zi HI0) hb); clear hb hbox hg; obtain ⟨Ao95, co95, eo95⟩ := Kd.R_slice HO414.out; subst eo95; have hnb96 := NB419_406.out; have hnc96 := NB406_419.out; have hnb97 := NB419_0.out; have hnc97 := NB0_419.out; have hcz98_0 := ce0 BK419; have hcz98_1 := ce1 BK419; have hfz98_0 := bfz BK419 0; have hfz98_1 := bfz BK419 1; obtain ⟨Ao99, co99, eo99⟩ := Kd.S_slice HO417.out; subst eo99) | ((with_reducible refine gate_callee (f := 51) rfl ?_); refine gl Try.func51 15 #[.pointer (some ⟨g, 0, none⟩), .int .i64 30] rfl rfl rfl ?_; (with_reducible refine (spec_l6Rd_pick.calls k g s0_0 t418 30 t420 t421 w0 _ ?side1 ?side2 A4.out).mono ?_); (case side1 => exact zi HI0); (case side2 => exact zb HB); rintro e w100 ⟨rfl, hi, hb, hk⟩; refine ⟨_, rfl, ?_⟩; replace BK406 := am (KeepBut.blk hk (zk BK406) NB406_0.out (by simp)); replace HO411 := am (Kd.R_mono (Kd.R_keep (IsS93.apart (zi HI0) (rf HO411 BK419) (by decide)) hk (fun _ h => h.2)) (fun _ h => h.1)); replace HO414 := am (Kd.R_mono (Kd.R_keep (IsS93.apart (zi HI0) (rf HO414 BK419) (by decide)) hk (fun _ h => h.2)) (fun _ h => h.1)); replace HO417 := am (Kd.S_mono (Kd.S_keep (IsS93.apartS (zi HI0) (sf HO417 BK419) (by decide)) hk (fun _ h => h.2)) (fun _ h => h.1)); replace BK419 := am (KeepBut.blk hk (g' := gb419) (o := .cells #[.slice Ao95 t412.length co95, .slice Ao99 t415.length co99] 31 (0, 0)) (zp BK419) NB419_0.out (by simp)); replace HK := am (KeepBut.trans (zh HK) hk (.inl rfl)); replace HB := am (hb); replace HI0 := am (hi); (try clear hb); (try clear hb2); (try clear hk); (try clear hi); have hcz101_0 := ce0 BK419; have hcz101_1 := ce1 BK419; have hfz101_0 := bfz BK419 0; have hfz101_1 := bfz BK419 1; have hnb102 := NB406_0.out; have hnc102 := NB0_406.out; have hcz103_0 := ce0 BK406; have hcz103_1 := ce1 BK406; have hfz103_0 := bfz BK406 0; have hfz103_1 := bfz BK406 1))
     refine bodyPost_ret (results_cell_row rfl _ _ gb406 31 #[.slice Ao95 t412.length co95, .slice Ao99 t415.length co99] (0, 0) _ rfl (zp BK406) Try.underlying31 rfl (by kernel_rfl)) rfl ?_
     exact ⟨_, _, zw, by (with_reducible repeat (first | apply Kd.R_alloc | apply Kd.R_drewN | apply Kd.R_drew)); exact Kd.R_mono (Kd.R_far (p := ⟨gb406, 1, none⟩) (Kd.R_far (p := ⟨gb406, 0, none⟩) (Kd.R_types HO414.out BK406.out (by decide)) (fun _ hk => hk.2) (.slice Ao95 t412.length co95)) (fun _ hk => hk.2) (.slice Ao99 t415.length co99)) (fun _ hk => trivial), by (with_reducible repeat (first | apply Kd.S_alloc | apply Kd.S_drewN | apply Kd.S_drew)); exact Kd.S_mono (Kd.S_far (p := ⟨gb406, 1, none⟩) (Kd.S_far (p := ⟨gb406, 0, none⟩) (Kd.S_types HO417.out BK406.out (by decide)) (fun _ hk => hk.2) (.slice Ao95 t412.length co95)) (fun _ hk => hk.2) (.slice Ao99 t415.length co99)) (fun _ hk => trivial), (zi HI0), (zb HB), (zh HK)⟩
   rw [if_pos c70] at H
   have c70b0 : (t420 == 2) = true := beq_iff_eq.mpr c70
   have c70b1 : (t420 != 2) = false := bne_eq_false_iff_eq.mpr c70
   clear c70
   obtain ⟨y435, hy435⟩ : ∃ y_ : List Int, y_ = (([0] : List Int)) := ⟨_, rfl⟩
   replace H : (if t415.length < 3518437208883 then (some (t412, (t415 ++ [(⟨(⟨#[65]⟩ : ByteArray), y435⟩ : S38)]), t421)) else (none)) = some (r1, r2, r3) := hY hy435 H
   have Ny435 := am hy435
   clear hy435
   by_cases c71 : t415.length < 3518437208883
   rotate_left
   · rw [if_neg c71] at H
     exact absurd H (by simp)
   rw [if_pos c71] at H
   have LMc71 := am c71
   clear c71
   obtain ⟨y438, hy438⟩ : ∃ y_ : List (S38), y_ = (t415 ++ [(⟨(⟨#[65]⟩ : ByteArray), y435⟩ : S38)]) := ⟨_, rfl⟩
   replace H : (some (t412, y438, t421)) = some (r1, r2, r3) := hY hy438 H
   have Ny438 := am hy438
   clear hy438
   simp only [Option.some.injEq, Prod.mk.injEq] at H
   obtain ⟨rfl, rfl, rfl⟩ := H
   go_enter Try.func50, Try.ntmps50
   go_wp2_with (first | ((with_reducible refine gate_dst (N := 2) rfl ?_); refine bx 31 #[.slice none 0 0, .slice none 0 0] ?_; intro gb406 hg w72 hbox hb; replace HB := am (below_step (zb HB) hb); have BK406 := am (hbox); have GW406 := am (zm hg (zh HK)); have GE406 := am ((Nat.le_trans HW0.out (zm hg (zh HK)))); replace HK := am (KeepBut.trans (zh HK) (KeepBut.of_below hb g none) (.inl rfl)); have NB0_406 := am (ix hg (zi HI0)); have NB406_0 := am (iy hg (zi HI0)); replace HI0 := am (IsS93.below (zi HI0) hb); clear hb hbox hg) | ((with_reducible refine gate_callee (f := 51) rfl ?_); refine gl Try.func51 9 #[.pointer (some ⟨g, 0, none⟩), .int .i64 22] rfl rfl rfl ?_; (with_reducible refine (spec_l6Rd_pick.calls k g s0_0 s0_1 22 t407 t408 w0 _ ?side1 ?side2 A2.out).mono ?_); (case side1 => exact zi HI0); (case side2 => exact zb HB); rintro e w73 ⟨rfl, hi, hb, hk⟩; refine ⟨_, rfl, ?_⟩; replace BK406 := am (KeepBut.blk hk (zk BK406) NB406_0.out (by simp)); replace HK := am (KeepBut.trans (zh HK) hk (.inl rfl)); replace HB := am (hb); replace HI0 := am (hi); (try clear hb); (try clear hb2); (try clear hk); (try clear hi)) | ((with_reducible refine gate_callee (f := 73) rfl ?_); refine gl Try.func73 11 #[.pointer (some ⟨g, 0, none⟩), .int .i64 (wrap64 (3 + t407))] rfl rfl rfl ?_; (with_reducible refine (spec_l71Ops.calls k g s0_0 t408 (wrap64 (3 + t407)) t409 t412 t415 t418 w0 _ ?side1 ?side2 A3.out).mono ?_); (case side1 => exact zi HI0); (case side2 => exact zb HB); rintro e w74 ⟨v410, v413, v416, rfl, ho0, ho1, ho2, hi, hb, hk⟩; refine ⟨_, rfl, ?_⟩; replace BK406 := am (KeepBut.blk hk (zk BK406) NB406_0.out (by simp)); have HO411 := am (Kd.R_lower ho0 (keep_size (zh HK))); have HO414 := am (Kd.R_lower ho1 (keep_size (zh HK))); have HO417 := am (Kd.S_lower ho2 (keep_size (zh HK))); replace HK := am (KeepBut.trans (zh HK) hk (.inl rfl)); replace HB := am (hb); replace HI0 := am (hi); (try clear hb); (try clear hb2); (try clear hk); (try clear hi); (try clear ho0); (try clear ho1); (try clear ho2)) | ((with_reducible refine gate_dst (N := 4) rfl ?_); refine bx 31 #[.slice none 0 0, .slice none 0 0] ?_; intro gb419 hg w75 hbox hb; replace HO411 := am (Kd.R_below (zr HO411) hb); replace HO414 := am (Kd.R_below (zr HO414) hb); replace HO417 := am (Kd.S_below (zs HO417) hb); replace HB := am (below_step (zb HB) hb); have BK419 := am (hbox); have GW419 := am (zm hg (zh HK)); have GE419 := am ((Nat.le_trans HW0.out (zm hg (zh HK)))); replace HK := am (KeepBut.trans (zh HK) (KeepBut.of_below hb g none) (.inl rfl)); have NB406_419 := am (zx hg (zk BK406)); have NB419_406 := am (zy hg (zk BK406)); replace BK406 := am (blk_below (zk BK406) hb); have NB0_419 := am (ix hg (zi HI0)); have NB419_0 := am (iy hg (zi HI0)); replace HI0 := am (IsS93.below (zi HI0) hb); clear hb hbox hg; obtain ⟨Ao76, co76, eo76⟩ := Kd.R_slice HO414.out; subst eo76; have hnb77 := NB419_406.out; have hnc77 := NB406_419.out; have hnb78 := NB419_0.out; have hnc78 := NB0_419.out; have hcz79_0 := ce0 BK419; have hcz79_1 := ce1 BK419; have hfz79_0 := bfz BK419 0; have hfz79_1 := bfz BK419 1; obtain ⟨Ao80, co80, eo80⟩ := Kd.S_slice HO417.out; subst eo80) | ((with_reducible refine gate_callee (f := 51) rfl ?_); refine gl Try.func51 15 #[.pointer (some ⟨g, 0, none⟩), .int .i64 30] rfl rfl rfl ?_; (with_reducible refine (spec_l6Rd_pick.calls k g s0_0 t418 30 t420 t421 w0 _ ?side1 ?side2 A4.out).mono ?_); (case side1 => exact zi HI0); (case side2 => exact zb HB); rintro e w81 ⟨rfl, hi, hb, hk⟩; refine ⟨_, rfl, ?_⟩; replace BK406 := am (KeepBut.blk hk (zk BK406) NB406_0.out (by simp)); replace HO411 := am (Kd.R_mono (Kd.R_keep (IsS93.apart (zi HI0) (rf HO411 BK419) (by decide)) hk (fun _ h => h.2)) (fun _ h => h.1)); replace HO414 := am (Kd.R_mono (Kd.R_keep (IsS93.apart (zi HI0) (rf HO414 BK419) (by decide)) hk (fun _ h => h.2)) (fun _ h => h.1)); replace HO417 := am (Kd.S_mono (Kd.S_keep (IsS93.apartS (zi HI0) (sf HO417 BK419) (by decide)) hk (fun _ h => h.2)) (fun _ h => h.1)); replace BK419 := am (KeepBut.blk hk (g' := gb419) (o := .cells #[.slice Ao76 t412.length co76, .slice Ao80 t415.length co80] 31 (0, 0)) (zp BK419) NB419_0.out (by simp)); replace HK := am (KeepBut.trans (zh HK) hk (.inl rfl)); replace HB := am (hb); replace HI0 := am (hi); (try clear hb); (try clear hb2); (try clear hk); (try clear hi); have hcz82_0 := ce0 BK419; have hcz82_1 := ce1 BK419; have hfz82_0 := bfz BK419 0; have hfz82_1 := bfz BK419 1) | ((with_reducible refine gate_dst (N := 53) rfl ?_); refine Kd.R_lit (Kd.int .i64) _ 3 ?hg (N := 53) ?hd (xs := ([0] : List Int)) (inner := [.int .i64 0]) (ok := fun _ => True) (okp := fun _ => True) ?hr ?hp (fun _ hk => hk) trivial (Below.refl _ _) (Nat.le_refl _) (by simp) ?_; (case hd => rfl); (case hg => rfl); (case hr => first | (go_simp; done) | (go_simp; rfl)); (case hp => exact (Reps.one (show Kd.M (Kd.int .i64) _ _ _ 0 [.int .i64 0] from rfl) (Reps.none _ _))); intro v436 w83 ho84 hb hg_ hnew_; clear hg_ hnew_; (first | rw [← Ny435.out] at ho84 | (simp only [Int.reduceToNat] at ho84; rw [← Ny435.out] at ho84)); replace HO411 := am (Kd.R_below (zr HO411) hb); replace HO414 := am (Kd.R_below (zr HO414) hb); replace HO417 := am (Kd.S_elder' (zs HO417) (Kd.R_base ho84) hb); have HO437 := am (Kd.R_lower ho84 (keep_size (zh HK))); replace HI0 := am (IsS93.below (zi HI0) hb); replace BK406 := am (blk_below (zk BK406) hb); replace BK419 := am (blk_below (zk BK419) hb); replace HK := am (KeepBut.trans (zh HK) (KeepBut.of_below hb g none) (.inl rfl)); replace HB := am (below_step (zb HB) hb); clear hb ho84; obtain ⟨Ao85, co85, eo85⟩ := Kd.R_slice HO437.out; subst eo85) | ((with_reducible refine gate_builtin (b := .append) (xs := #[.tmp 52, .tmp 55]) rfl ?_); at_builtin; refine Kd.S_append k38 w.heap.size rfl (.tmp 52) (.tmp 55) 29 38 (.agg #[(.string ⟨#[]⟩), (.slice none 0 0)]) 40 rfl Try.underlying29 info38 rfl (by decide) (by omega) (.slice Ao80 t415.length co80) t415 (⟨(⟨#[65]⟩ : ByteArray), y435⟩ : S38) [.string (⟨#[65]⟩ : ByteArray), .slice Ao85 y435.length co85] (fun _ => True) (fun k_ => some k_ = (.slice Ao85 y435.length co85 : Value).ownBlock) rfl rfl ?aP (fun k_ hk_ => ((Kd.R_mono (ok' := fun k_ => ((fun _ => True)) k_ ∧ some k_ ≠ (.slice Ao80 t415.length co80 : Value).ownBlock) (Kd.R_apart' (HO437.out) (Kd.S_typed HO417.out) (by decide)) (fun k_ hk => ⟨trivial, hk.2⟩))).1 k_ hk_.symm) ?aF ?aO (Below.refl _ _) ?aS ?aL ?_; (case aP => exact k38_mkM _ _ _ (⟨(⟨#[65]⟩ : ByteArray), y435⟩ : S38) (Kd.R_mono (Kd.R_tight rfl (Kd.R_mono (ok' := fun k_ => ((fun _ => True)) k_ ∧ some k_ ≠ (.slice Ao80 t415.length co80 : Value).ownBlock) (Kd.R_apart' (HO437.out) (Kd.S_typed HO417.out) (by decide)) (fun k_ hk => ⟨trivial, hk.2⟩))) (fun _ h_ => h_))); (case aF => exact (fun _ _ => trivial)); (case aO => exact (by (with_reducible repeat (first | apply Kd.S_alloc | apply Kd.S_drewN | apply Kd.S_drew)); exact Kd.S_mono HO417.out (fun k_ hk => ⟨trivial, fun e_ => hk.2 e_⟩))); (case aS => exact (keep_size (zh HK))); (case aL => have := LMc71.out; omega); intro v439 w86 ho hb hg hat; rw [← Ny438.out] at ho; replace HI0 := am (IsS93.grown (zi HI0) hg (IsS93.own_neS HI0.out HO417.out (by decide))); replace BK406 := am (blk_grown (zk BK406) hg (Kd.S_ne HO417.out BK406.out (by decide))); replace HO411 := am (Kd.R_over' (zr HO411) (Kd.S_typed (zs HO417)) (by decide) hg); replace HO414 := am (Kd.R_over' (zr HO414) (Kd.S_typed (zs HO417)) (by decide) hg); replace BK419 := am (blk_grown (zk BK419) hg (Kd.S_ne HO417.out BK419.out (by decide))); replace HB := am (below_weaken (zb HB) HL.out hb); replace HK := am (KeepBut.trans (zh HK) (KeepBut.of_grown hg g) (Kd.S_base2 HO417.out)); have HO440 := am (ho); clear HO417 HO437; clear ho hb hg hat; obtain ⟨Ao87, co87, eo87⟩ := Kd.S_slice HO440.out; subst eo87; have hcz88_0 := ce0 BK419; have hcz88_1 := ce1 BK419; have hfz88_0 := bfz BK419 0; have hfz88_1 := bfz BK419 1; have hnb89 := NB406_0.out; have hnc89 := NB0_406.out; have hcz90_0 := ce0 BK406; have hcz90_1 := ce1 BK406; have hfz90_0 := bfz BK406 0; have hfz90_1 := bfz BK406 1))
   refine bodyPost_ret (results_cell_row rfl _ _ gb406 31 #[.slice Ao76 t412.length co76, .slice Ao87 y438.length co87] (0, 0) _ rfl (zp BK406) Try.underlying31 rfl (by kernel_rfl)) rfl ?_
   exact ⟨_, _, zw, by (with_reducible repeat (first | apply Kd.R_alloc | apply Kd.R_drewN | apply Kd.R_drew)); exact Kd.R_mono (Kd.R_far (p := ⟨gb406, 1, none⟩) (Kd.R_far (p := ⟨gb406, 0, none⟩) (Kd.R_far (p := ⟨gb419, 1, none⟩) (Kd.R_types (Kd.R_types HO414.out BK419.out (by decide)) BK406.out (by decide)) (fun _ hk => hk.1.2) (.slice Ao87 y438.length co87)) (fun _ hk => hk.2) (.slice Ao76 t412.length co76)) (fun _ hk => hk.2) (.slice Ao87 y438.length co87)) (fun _ hk => trivial), by (with_reducible repeat (first | apply Kd.S_alloc | apply Kd.S_drewN | apply Kd.S_drew)); exact Kd.S_mono (Kd.S_far (p := ⟨gb406, 1, none⟩) (Kd.S_far (p := ⟨gb406, 0, none⟩) (Kd.S_far (p := ⟨gb419, 1, none⟩) (Kd.S_types (Kd.S_types HO440.out BK419.out (by decide)) BK406.out (by decide)) (fun _ hk => hk.1.2) (.slice Ao87 y438.length co87)) (fun _ hk => hk.2) (.slice Ao76 t412.length co76)) (fun _ hk => hk.2) (.slice Ao87 y438.length co87)) (fun _ hk => trivial), (zi HI0), (zb HB), (zh HK)⟩
 rw [if_pos c29] at H
 have c29b0 : (t420 == 1) = true := beq_iff_eq.mpr c29
 have c29b1 : (t420 != 1) = false := bne_eq_false_iff_eq.mpr c29
 clear c29
 by_cases c30 : (t415.length : Int) > 0
 rotate_left
 · rw [if_neg c30] at H
   have c30b0 : decide (0 < (t415.length : Int)) = false := decide_eq_false c30
   have c30b1 : decide (0 < t415.length) = false := decide_eq_false (by omega)
   clear c30
   simp only [Option.some.injEq, Prod.mk.injEq] at H
   obtain ⟨rfl, rfl, rfl⟩ := H
   go_enter Try.func50, Try.ntmps50
   go_wp2_with (first | ((with_reducible refine gate_dst (N := 2) rfl ?_); refine bx 31 #[.slice none 0 0, .slice none 0 0] ?_; intro gb406 hg w57 hbox hb; replace HB := am (below_step (zb HB) hb); have BK406 := am (hbox); have GW406 := am (zm hg (zh HK)); have GE406 := am ((Nat.le_trans HW0.out (zm hg (zh HK)))); replace HK := am (KeepBut.trans (zh HK) (KeepBut.of_below hb g none) (.inl rfl)); have NB0_406 := am (ix hg (zi HI0)); have NB406_0 := am (iy hg (zi HI0)); replace HI0 := am (IsS93.below (zi HI0) hb); clear hb hbox hg) | ((with_reducible refine gate_callee (f := 51) rfl ?_); refine gl Try.func51 9 #[.pointer (some ⟨g, 0, none⟩), .int .i64 22] rfl rfl rfl ?_; (with_reducible refine (spec_l6Rd_pick.calls k g s0_0 s0_1 22 t407 t408 w0 _ ?side1 ?side2 A2.out).mono ?_); (case side1 => exact zi HI0); (case side2 => exact zb HB); rintro e w58 ⟨rfl, hi, hb, hk⟩; refine ⟨_, rfl, ?_⟩; replace BK406 := am (KeepBut.blk hk (zk BK406) NB406_0.out (by simp)); replace HK := am (KeepBut.trans (zh HK) hk (.inl rfl)); replace HB := am (hb); replace HI0 := am (hi); (try clear hb); (try clear hb2); (try clear hk); (try clear hi)) | ((with_reducible refine gate_callee (f := 73) rfl ?_); refine gl Try.func73 11 #[.pointer (some ⟨g, 0, none⟩), .int .i64 (wrap64 (3 + t407))] rfl rfl rfl ?_; (with_reducible refine (spec_l71Ops.calls k g s0_0 t408 (wrap64 (3 + t407)) t409 t412 t415 t418 w0 _ ?side1 ?side2 A3.out).mono ?_); (case side1 => exact zi HI0); (case side2 => exact zb HB); rintro e w59 ⟨v410, v413, v416, rfl, ho0, ho1, ho2, hi, hb, hk⟩; refine ⟨_, rfl, ?_⟩; replace BK406 := am (KeepBut.blk hk (zk BK406) NB406_0.out (by simp)); have HO411 := am (Kd.R_lower ho0 (keep_size (zh HK))); have HO414 := am (Kd.R_lower ho1 (keep_size (zh HK))); have HO417 := am (Kd.S_lower ho2 (keep_size (zh HK))); replace HK := am (KeepBut.trans (zh HK) hk (.inl rfl)); replace HB := am (hb); replace HI0 := am (hi); (try clear hb); (try clear hb2); (try clear hk); (try clear hi); (try clear ho0); (try clear ho1); (try clear ho2)) | ((with_reducible refine gate_dst (N := 4) rfl ?_); refine bx 31 #[.slice none 0 0, .slice none 0 0] ?_; intro gb419 hg w60 hbox hb; replace HO411 := am (Kd.R_below (zr HO411) hb); replace HO414 := am (Kd.R_below (zr HO414) hb); replace HO417 := am (Kd.S_below (zs HO417) hb); replace HB := am (below_step (zb HB) hb); have BK419 := am (hbox); have GW419 := am (zm hg (zh HK)); have GE419 := am ((Nat.le_trans HW0.out (zm hg (zh HK)))); replace HK := am (KeepBut.trans (zh HK) (KeepBut.of_below hb g none) (.inl rfl)); have NB406_419 := am (zx hg (zk BK406)); have NB419_406 := am (zy hg (zk BK406)); replace BK406 := am (blk_below (zk BK406) hb); have NB0_419 := am (ix hg (zi HI0)); have NB419_0 := am (iy hg (zi HI0)); replace HI0 := am (IsS93.below (zi HI0) hb); clear hb hbox hg; obtain ⟨Ao61, co61, eo61⟩ := Kd.R_slice HO414.out; subst eo61; have hnb62 := NB419_406.out; have hnc62 := NB406_419.out; have hnb63 := NB419_0.out; have hnc63 := NB0_419.out; have hcz64_0 := ce0 BK419; have hcz64_1 := ce1 BK419; have hfz64_0 := bfz BK419 0; have hfz64_1 := bfz BK419 1; obtain ⟨Ao65, co65, eo65⟩ := Kd.S_slice HO417.out; subst eo65) | ((with_reducible refine gate_callee (f := 51) rfl ?_); refine gl Try.func51 15 #[.pointer (some ⟨g, 0, none⟩), .int .i64 30] rfl rfl rfl ?_; (with_reducible refine (spec_l6Rd_pick.calls k g s0_0 t418 30 t420 t421 w0 _ ?side1 ?side2 A4.out).mono ?_); (case side1 => exact zi HI0); (case side2 => exact zb HB); rintro e w66 ⟨rfl, hi, hb, hk⟩; refine ⟨_, rfl, ?_⟩; replace BK406 := am (KeepBut.blk hk (zk BK406) NB406_0.out (by simp)); replace HO411 := am (Kd.R_mono (Kd.R_keep (IsS93.apart (zi HI0) (rf HO411 BK419) (by decide)) hk (fun _ h => h.2)) (fun _ h => h.1)); replace HO414 := am (Kd.R_mono (Kd.R_keep (IsS93.apart (zi HI0) (rf HO414 BK419) (by decide)) hk (fun _ h => h.2)) (fun _ h => h.1)); replace HO417 := am (Kd.S_mono (Kd.S_keep (IsS93.apartS (zi HI0) (sf HO417 BK419) (by decide)) hk (fun _ h => h.2)) (fun _ h => h.1)); replace BK419 := am (KeepBut.blk hk (g' := gb419) (o := .cells #[.slice Ao61 t412.length co61, .slice Ao65 t415.length co65] 31 (0, 0)) (zp BK419) NB419_0.out (by simp)); replace HK := am (KeepBut.trans (zh HK) hk (.inl rfl)); replace HB := am (hb); replace HI0 := am (hi); (try clear hb); (try clear hb2); (try clear hk); (try clear hi); have hcz67_0 := ce0 BK419; have hcz67_1 := ce1 BK419; have hfz67_0 := bfz BK419 0; have hfz67_1 := bfz BK419 1; have hnb68 := NB406_0.out; have hnc68 := NB0_406.out; have hcz69_0 := ce0 BK406; have hcz69_1 := ce1 BK406; have hfz69_0 := bfz BK406 0; have hfz69_1 := bfz BK406 1))
   refine bodyPost_ret (results_cell_row rfl _ _ gb406 31 #[.slice Ao61 t412.length co61, .slice Ao65 t415.length co65] (0, 0) _ rfl (zp BK406) Try.underlying31 rfl (by kernel_rfl)) rfl ?_
   exact ⟨_, _, zw, by (with_reducible repeat (first | apply Kd.R_alloc | apply Kd.R_drewN | apply Kd.R_drew)); exact Kd.R_mono (Kd.R_far (p := ⟨gb406, 1, none⟩) (Kd.R_far (p := ⟨gb406, 0, none⟩) (Kd.R_types HO414.out BK406.out (by decide)) (fun _ hk => hk.2) (.slice Ao61 t412.length co61)) (fun _ hk => hk.2) (.slice Ao65 t415.length co65)) (fun _ hk => trivial), by (with_reducible repeat (first | apply Kd.S_alloc | apply Kd.S_drewN | apply Kd.S_drew)); exact Kd.S_mono (Kd.S_far (p := ⟨gb406, 1, none⟩) (Kd.S_far (p := ⟨gb406, 0, none⟩) (Kd.S_types HO417.out BK406.out (by decide)) (fun _ hk => hk.2) (.slice Ao61 t412.length co61)) (fun _ hk => hk.2) (.slice Ao65 t415.length co65)) (fun _ hk => trivial), (zi HI0), (zb HB), (zh HK)⟩
 rw [if_pos c30] at H
 have c30b0 : decide (0 < (t415.length : Int)) = true := decide_eq_true c30
 have c30b1 : decide (0 < t415.length) = true := decide_eq_true (by omega)
 clear c30
 replace H := obs H
 obtain ⟨⟨t427, t428⟩, A310, H⟩ := H
 replace H : (if 0 ≤ t427 then (if t427 < (t415.length : Int) then ((spec_l6Rd_pick.f k s0_0 t428 10).bind fun bt430 => (if 0 < (((rd_T38 t415 t427).f1).length : Int) then (some (t412, (t415.set (t427 : Int).toNat (⟨(rd_T38 t415 t427).f0, (((rd_T38 t415 t427).f1).set (0 : Int).toNat bt430.1)⟩ : S38)), bt430.2)) else (none))) else (none)) else (none)) = some (r1, r2, r3) := H
 have A31 := am A310
 clear A310
 by_cases c32 : 0 ≤ t427
 rotate_left
 · rw [if_neg c32] at H
   exact absurd H (by simp)
 rw [if_pos c32] at H
 have c32b0 : decide (0 ≤ t427) = true := decide_eq_true c32
 clear c32
 by_cases c33 : t427 < (t415.length : Int)
 rotate_left
 · rw [if_neg c33] at H
   exact absurd H (by simp)
 rw [if_pos c33] at H
 have c33b0 : decide (t427 < (t415.length : Int)) = true := decide_eq_true c33
 clear c33
 replace H := obs H
 obtain ⟨⟨t430, t431⟩, A340, H⟩ := H
 replace H : (if 0 < (((rd_T38 t415 t427).f1).length : Int) then (some (t412, (t415.set (t427 : Int).toNat (⟨(rd_T38 t415 t427).f0, (((rd_T38 t415 t427).f1).set (0 : Int).toNat t430)⟩ : S38)), t431)) else (none)) = some (r1, r2, r3) := H
 have A34 := am A340
 clear A340
 by_cases c35 : 0 < (((rd_T38 t415 t427).f1).length : Int)
 rotate_left
 · rw [if_neg c35] at H
   exact absurd H (by simp)
 rw [if_pos c35] at H
 have c35b0 : decide (0 < (((rd_T38 t415 t427).f1).length : Int)) = true := decide_eq_true c35
 have c35b1 : decide (0 < ((rd_T38 t415 t427).f1).length) = true := decide_eq_true (by omega)
 clear c35
 obtain ⟨y432, hy432⟩ : ∃ y_ : List Int, y_ = (((rd_T38 t415 t427).f1).set (0 : Int).toNat t430) := ⟨_, rfl⟩
 replace H : (some (t412, (t415.set (t427 : Int).toNat (⟨(rd_T38 t415 t427).f0, y432⟩ : S38)), t431)) = some (r1, r2, r3) := hY hy432 H
 have Ny432 := am hy432
 clear hy432
 obtain ⟨y434, hy434⟩ : ∃ y_ : List (S38), y_ = (t415.set (t427 : Int).toNat (⟨(rd_T38 t415 t427).f0, y432⟩ : S38)) := ⟨_, rfl⟩
 replace H : (some (t412, y434, t431)) = some (r1, r2, r3) := hY hy434 H
 have Ny434 := am hy434
 clear hy434
 simp only [Option.some.injEq, Prod.mk.injEq] at H
 obtain ⟨rfl, rfl, rfl⟩ := H
 go_enter Try.func50, Try.ntmps50
 try go_wp2_with (first | ((with_reducible refine gate_dst (N := 2) rfl ?_); refine bx 31 #[.slice none 0 0, .slice none 0 0] ?_; intro gb406 hg w37 hbox hb; replace HB := am (below_step (zb HB) hb); have BK406 := am (hbox); have GW406 := am (zm hg (zh HK)); have GE406 := am ((Nat.le_trans HW0.out (zm hg (zh HK)))); replace HK := am (KeepBut.trans (zh HK) (KeepBut.of_below hb g none) (.inl rfl)); have NB0_406 := am (ix hg (zi HI0)); have NB406_0 := am (iy hg (zi HI0)); replace HI0 := am (IsS93.below (zi HI0) hb); clear hb hbox hg) | ((with_reducible refine gate_callee (f := 51) rfl ?_); refine gl Try.func51 9 #[.pointer (some ⟨g, 0, none⟩), .int .i64 22] rfl rfl rfl ?_; (with_reducible refine (spec_l6Rd_pick.calls k g s0_0 s0_1 22 t407 t408 w0 _ ?side1 ?side2 A2.out).mono ?_); (case side1 => exact zi HI0); (case side2 => exact zb HB); rintro e w38 ⟨rfl, hi, hb, hk⟩; refine ⟨_, rfl, ?_⟩; replace BK406 := am (KeepBut.blk hk (zk BK406) NB406_0.out (by simp)); replace HK := am (KeepBut.trans (zh HK) hk (.inl rfl)); replace HB := am (hb); replace HI0 := am (hi); (try clear hb); (try clear hb2); (try clear hk); (try clear hi)) | ((with_reducible refine gate_callee (f := 73) rfl ?_); refine gl Try.func73 11 #[.pointer (some ⟨g, 0, none⟩), .int .i64 (wrap64 (3 + t407))] rfl rfl rfl ?_; (with_reducible refine (spec_l71Ops.calls k g s0_0 t408 (wrap64 (3 + t407)) t409 t412 t415 t418 w0 _ ?side1 ?side2 A3.out).mono ?_); (case side1 => exact zi HI0); (case side2 => exact zb HB); rintro e w39 ⟨v410, v413, v416, rfl, ho0, ho1, ho2, hi, hb, hk⟩; refine ⟨_, rfl, ?_⟩; replace BK406 := am (KeepBut.blk hk (zk BK406) NB406_0.out (by simp)); have HO411 := am (Kd.R_lower ho0 (keep_size (zh HK))); have HO414 := am (Kd.R_lower ho1 (keep_size (zh HK))); have HO417 := am (Kd.S_lower ho2 (keep_size (zh HK))); replace HK := am (KeepBut.trans (zh HK) hk (.inl rfl)); replace HB := am (hb); replace HI0 := am (hi); (try clear hb); (try clear hb2); (try clear hk); (try clear hi); (try clear ho0); (try clear ho1); (try clear ho2)) | ((with_reducible refine gate_dst (N := 4) rfl ?_); refine bx 31 #[.slice none 0 0, .slice none 0 0] ?_; intro gb419 hg w40 hbox hb; replace HO411 := am (Kd.R_below (zr HO411) hb); replace HO414 := am (Kd.R_below (zr HO414) hb); replace HO417 := am (Kd.S_below (zs HO417) hb); replace HB := am (below_step (zb HB) hb); have BK419 := am (hbox); have GW419 := am (zm hg (zh HK)); have GE419 := am ((Nat.le_trans HW0.out (zm hg (zh HK)))); replace HK := am (KeepBut.trans (zh HK) (KeepBut.of_below hb g none) (.inl rfl)); have NB406_419 := am (zx hg (zk BK406)); have NB419_406 := am (zy hg (zk BK406)); replace BK406 := am (blk_below (zk BK406) hb); have NB0_419 := am (ix hg (zi HI0)); have NB419_0 := am (iy hg (zi HI0)); replace HI0 := am (IsS93.below (zi HI0) hb); clear hb hbox hg; obtain ⟨Ao41, co41, eo41⟩ := Kd.R_slice HO414.out; subst eo41; have hnb42 := NB419_406.out; have hnc42 := NB406_419.out; have hnb43 := NB419_0.out; have hnc43 := NB0_419.out; have hcz44_0 := ce0 BK419; have hcz44_1 := ce1 BK419; have hfz44_0 := bfz BK419 0; have hfz44_1 := bfz BK419 1; obtain ⟨Ao45, co45, eo45⟩ := Kd.S_slice HO417.out; subst eo45) | ((with_reducible refine gate_callee (f := 51) rfl ?_); refine gl Try.func51 15 #[.pointer (some ⟨g, 0, none⟩), .int .i64 30] rfl rfl rfl ?_; (with_reducible refine (spec_l6Rd_pick.calls k g s0_0 t418 30 t420 t421 w0 _ ?side1 ?side2 A4.out).mono ?_); (case side1 => exact zi HI0); (case side2 => exact zb HB); rintro e w46 ⟨rfl, hi, hb, hk⟩; refine ⟨_, rfl, ?_⟩; replace BK406 := am (KeepBut.blk hk (zk BK406) NB406_0.out (by simp)); replace HO411 := am (Kd.R_mono (Kd.R_keep (IsS93.apart (zi HI0) (rf HO411 BK419) (by decide)) hk (fun _ h => h.2)) (fun _ h => h.1)); replace HO414 := am (Kd.R_mono (Kd.R_keep (IsS93.apart (zi HI0) (rf HO414 BK419) (by decide)) hk (fun _ h => h.2)) (fun _ h => h.1)); replace HO417 := am (Kd.S_mono (Kd.S_keep (IsS93.apartS (zi HI0) (sf HO417 BK419) (by decide)) hk (fun _ h => h.2)) (fun _ h => h.1)); replace BK419 := am (KeepBut.blk hk (g' := gb419) (o := .cells #[.slice Ao41 t412.length co41, .slice Ao45 t415.length co45] 31 (0, 0)) (zp BK419) NB419_0.out (by simp)); replace HK := am (KeepBut.trans (zh HK) hk (.inl rfl)); replace HB := am (hb); replace HI0 := am (hi); (try clear hb); (try clear hb2); (try clear hk); (try clear hi); have hcz47_0 := ce0 BK419; have hcz47_1 := ce1 BK419; have hfz47_0 := bfz BK419 0; have hfz47_1 := bfz BK419 1) | ((with_reducible refine gate_callee (f := 51) rfl ?_); refine gl Try.func51 39 #[.pointer (some ⟨g, 0, none⟩), .int .i64 (t415.length : Int)] rfl rfl rfl ?_; (with_reducible refine (spec_l6Rd_pick.calls k g s0_0 t421 (t415.length : Int) t427 t428 w0 _ ?side1 ?side2 A31.out).mono ?_); (case side1 => exact zi HI0); (case side2 => exact zb HB); rintro e w48 ⟨rfl, hi, hb, hk⟩; refine ⟨_, rfl, ?_⟩; replace BK406 := am (KeepBut.blk hk (zk BK406) NB406_0.out (by simp)); replace HO411 := am (Kd.R_mono (Kd.R_keep (IsS93.apart (zi HI0) (zr HO411) (by decide)) hk (fun _ h => h.2)) (fun _ h => h.1)); replace HO414 := am (Kd.R_mono (Kd.R_keep (IsS93.apart (zi HI0) (zr HO414) (by decide)) hk (fun _ h => h.2)) (fun _ h => h.1)); replace HO417 := am (Kd.S_mono (Kd.S_keep (IsS93.apartS (zi HI0) (zs HO417) (by decide)) hk (fun _ h => h.2)) (fun _ h => h.1)); replace BK419 := am (KeepBut.blk hk (zk BK419) NB419_0.out (by simp)); replace HK := am (KeepBut.trans (zh HK) hk (.inl rfl)); replace HB := am (hb); replace HI0 := am (hi); (try clear hb); (try clear hb2); (try clear hk); (try clear hi)))
 replace HO411 := am (Kd.R_drew HO411.out)
 replace HO414 := am (Kd.R_drew HO414.out)
 replace HO417 := am (Kd.S_drew HO417.out)
 replace BK406 := am (blk_drew BK406.out)
 replace BK419 := am (blk_drew BK419.out)
 replace HI0 := am (IsS93.drew HI0.out)
 replace HK := am (keep_drew HK.out)
 replace HB := am (below_drew1 HB.out)
 have p429 : 0 ≤ (t427 : Int) := of_decide_eq_true zl
 have q429 : t427 < (t415.length : Int) := of_decide_eq_true zl
 obtain ⟨ad429, A429_1, c429_1, e429, hx429_0, hx429_1, hl429_1, hi429_1⟩ := at_T38 (Kd.S_reads' HO417.out).2.2 t427 p429 q429
 cases e429
 obtain ⟨ce429, hce429, hMe429, hcc429⟩ := Kd.S_get HO417.out z38 t427 p429 (by first | exact q429 | exact of_decide_eq_true zl | (have e_ := (Kd.S_reads' HO417.out).1; omega))
 obtain ⟨ve429_1, rfl, ge429_1⟩ := k38_openM hMe429
 have hv429_1 := hcc429 1 _ rfl
 rw [add_field _ _ 1 (by omega)] at hv429_1
 replace hv429_1 := Option.some.inj (hv429_1.symm.trans hx429_1)
 rw [hv429_1] at ge429_1
 have HL429_1 := am (show Kd.R (Kd.int .i64) 3 _ _ _ _ ((rd_T38 t415 t427).f1) from ge429_1)
 clear hv429_1 ge429_1
 have HX429_1 := am hx429_1
 clear hcc429 hce429
 have HR429_1 := am hi429_1
 have HC429_1 := am hl429_1
 clear hi429_1 hl429_1
 replace p429 := eq_true p429
 replace q429 := eq_true q429
 refine start_ (n := 10) (S := fun w' => w'.cell? ⟨gb419, 0, none⟩ = some (.slice Ao41 t412.length co41) ∧ w'.cell? ⟨gb419, 1, none⟩ = some (.slice (some ad429) t415.length co45) ∧ w'.cell? (ad429.add ((t427).toNat * 2)) = some (.string ((rd_T38 t415 t427).f0)) ∧ w'.cell? ⟨(ad429.add ((t427).toNat * 2)).block, (ad429.add ((t427).toNat * 2)).off + 1, none⟩ = some (.slice A429_1 ((rd_T38 t415 t427).f1).length c429_1)) (ds := [9]) (bs 10 0) (by kernel_rfl) rfl rfl ⟨ce0 BK419, ce1 BK419, hx429_0, hx429_1⟩ (fun hHeld => ?_); refine with_tabW spec_l71Pool.tab8 spec_l71Pool.bits8 (fun HT_ HW_ => ?_)
 generalize w48.drew = w49 at HO411 HO414 HO417 BK406 BK419 HI0 HK HB HL429_1 HR429_1 HX429_1 hx429_0 hx429_1 hHeld ⊢
 refine pu 0 40 10 1 rfl rfl ?_
 refine pu 2 42 10 5 rfl rfl ?_
 refine pu 6 46 10 69 rfl rfl ?_
 refine ta4 1 41 10 71 rfl rfl hHeld ?_
 refine pu 3 43 10 79 rfl rfl ?_
 refine pu 4 44 10 95 rfl rfl ?_
 refine ta4 5 45 10 127 rfl rfl hHeld ?_
 refine oz 7 10 255 rfl rfl (fun K hK => ?_)
 refine gs Try.func51 #[.pointer (some ⟨g, 0, none⟩), .int .i64 10] rfl rfl ?_
 with_reducible refine (spec_l6Rd_pick.calls k g s0_0 t428 10 t430 t431 w0 _ ?side1 ?side2 A34.out).mono ?_
 (case side1 => exact zi HI0)
 (case side2 => exact zb HB)
 rintro e w50 ⟨rfl, hi, hb, hk⟩
 have HS2_ := keep_cell hk (hHeld.2.2.1) (by first | (rw [add_block]; exact Kd.own_blk (IsS93.own_neS HI0.out HO417.out (by decide))) | (show (Addr.add _ _).block ≠ _; rw [add_block]; exact Kd.own_blk (IsS93.own_neS HI0.out HO417.out (by decide))) | exact Kd.own_blk (IsS93.own_neS HI0.out HO417.out (by decide)))
 have HS3_ := keep_cell hk (hHeld.2.2.2) (by first | (rw [add_block]; exact Kd.own_blk (IsS93.own_neS HI0.out HO417.out (by decide))) | (show (Addr.add _ _).block ≠ _; rw [add_block]; exact Kd.own_blk (IsS93.own_neS HI0.out HO417.out (by decide))) | exact Kd.own_blk (IsS93.own_neS HI0.out HO417.out (by decide)))
 refine ⟨_, rfl, ?_⟩
 replace BK406 := am (KeepBut.blk hk (zk BK406) NB406_0.out (by simp))
 replace HO411 := am (Kd.R_mono (Kd.R_keep (IsS93.apart (zi HI0) (zr HO411) (by decide)) hk (fun _ h => h.2)) (fun _ h => h.1))
 replace HO414 := am (Kd.R_mono (Kd.R_keep (IsS93.apart (zi HI0) (zr HO414) (by decide)) hk (fun _ h => h.2)) (fun _ h => h.1))
 replace BK419 := am (KeepBut.blk hk (zk BK419) NB419_0.out (by simp))
 replace HL429_1 := am (Kd.R_mono (Kd.R_keep (IsS93.apart (zi HI0) (zr HL429_1) (by decide)) hk (fun _ h => h.2)) (fun _ h => h.1))
 replace HX429_1 := am (keep_cell hk HX429_1.out (by first | (rw [add_block]; exact Kd.own_blk (IsS93.own_neS HI0.out HO417.out (by decide))) | (show (Addr.add _ _).block ≠ _; rw [add_block]; exact Kd.own_blk (IsS93.own_neS HI0.out HO417.out (by decide))) | exact Kd.own_blk (IsS93.own_neS HI0.out HO417.out (by decide)) | (dsimp only; exact Kd.own_blk (IsS93.own_neS HI0.out HO417.out (by decide)))))
 replace HO417 := am (Kd.S_mono (Kd.S_keep (IsS93.apartS (zi HI0) (zs HO417) (by decide)) hk (fun _ h => h.2)) (fun _ h => h.1))
 replace HK := am (KeepBut.trans (zh HK) hk (.inl rfl))
 replace HB := am (hb)
 replace HI0 := am (hi)
 (try clear hb)
 (try clear hb2)
 (try clear hk)
 (try clear hi)
 have p36 : 0 ≤ (0 : Int) := (by omega)
 have q36 : (0 : Int) < ((((rd_T38 t415 t427).f1).length : Int) : Int) := of_decide_eq_true zl
 have qi36 : (0 < ((rd_T38 t415 t427).f1).length) = True := eq_true (by omega)
 obtain ⟨go36, co36, eo36, gb36, gl36, cl36, HG36⟩ := Kd.R_form HL429_1.out (by omega)
 (first | cases eo36 | (injection eo36 with ea_ en_ ec_; (first | subst ea_ | (injection ea_ with ea_; subst ea_)); subst ec_; clear en_))
 have GB36 := am gb36
 have GG36 := am HG36
 clear gb36 gl36 HG36
 obtain ⟨hx36_0, hf36_0⟩ := Kd.R_celln 0 HL429_1.out (0 : Int) p36 q36
 (try rw [show ((0 : Int)).toNat = 0 from rfl] at hx36_0)
 (try simp only [Nat.reduceMul, Nat.zero_mul, Nat.zero_add, Nat.reduceAdd] at hx36_0)
 (try rw [show ((0 : Int)).toNat = 0 from rfl] at hf36_0)
 (try simp only [Nat.reduceMul, Nat.zero_mul, Nat.zero_add, Nat.reduceAdd] at hf36_0)
 replace p36 := eq_true p36
 replace q36 := eq_true q36
 have hq51 : (t427 : Int) < (t415.length : Int) := (by have h_ : (t427 : Int) < ((t415.length : Int) : Int) := of_decide_eq_true zl; first | exact h_ | (have e_ := (Kd.S_reads' HO417.out).1; omega) | simpa only [List.length_set, List.length_set] using h_)
 obtain ⟨oki51, ce51, hcl51, hM51, hcc51, hok51, hbk51⟩ := Kd.S_borrow HO417.out z38 (t427 : Int) (of_decide_eq_true zl) (by first | exact hq51 | (have e_ := (Kd.S_reads' HO417.out).1; have h_ := hq51; omega))
 obtain ⟨ve51_1, rfl, ge51_1⟩ := k38_openM hM51
 have hv51 := hcc51 1 _ rfl
 rw [add_field _ _ 1 (by omega)] at hv51
 replace hv51 := Option.some.inj (hv51.symm.trans HX429_1.out)
 subst hv51
 clear hcc51 hcl51
 replace ge51_1 := (show Kd.R (Kd.int .i64) 3 _ _ _ _ ((rd_T38 t415 t427).f1) from ge51_1)
 have HP51 := Kd.R_putg ge51_1 (0 : Int) t430
 have HN0_go36 := am (show g ≠ go36 from by have h_ := IsS93.own_ne HI0.out HL429_1.out (by decide); intro e_; exact h_ (by rw [e_]; rfl))
 rw [← Ny432.out] at HP51
 have HS51 := hbk51 HP51.2 (fun k_ e_ => by injection e_ with e_; subst e_; exact ge51_1.1 _ rfl) (x' := (⟨(rd_T38 t415 t427).f0, y432⟩ : S38)) (k38_mkM _ _ _ (⟨(rd_T38 t415 t427).f0, y432⟩ : S38) HP51.1)
 rw [← Ny434.out] at HS51
 have HQ51 := am HS51
 clear HP51 HS51 hbk51 hok51
 refine hK.out _ _ ⟨ce0 BK419, ce1 BK419, HS2_, HS3_⟩ (fun hHeld => ?_)
 clear hK K
 refine norm_ (a' := ?_) ?_ ?_
 rotate_left
 · show Act.put _ (some 47) _ = _
   simp only [Act.put, List.setIfInBounds_toArray, List.set_cons_zero, List.set_cons_succ, i64_w, i32_w]
   rfl
 refine pu 8 48 10 511 rfl rfl ?_
 refine la 9 10 1023 rfl rfl (fun K hK => ?_)
 refine skip_ (w1 := ?_) (by rfl) rfl ?_ ?_
 rotate_left
 · go_simp
   rfl
 refine hK.out _ _ ?_
 clear hK K
 refine done_ (done_of HT_.out (by kernel_rfl)) ?_
 have n0_ : Aside0 (Kd.R k103 103 (w50.setCell ⟨go36, 0, none⟩ (.int .i64 t430)) w.heap.size (fun _ => True) v410 t409) := ⟨by (with_reducible repeat (first | apply Kd.R_alloc | apply Kd.R_drewN | apply Kd.R_drew)); exact Kd.R_mono (Kd.R_far (p := ⟨go36, 0, none⟩) (Kd.R_types HO411.out GG36.out (by decide)) (fun _ hk => hk.2) (.int .i64 t430)) (fun _ hk => trivial)⟩
 have n1_ : Aside0 (Kd.R k55 55 (w50.setCell ⟨go36, 0, none⟩ (.int .i64 t430)) w.heap.size (fun _ => True) (.slice Ao41 t412.length co41) t412) := ⟨by (with_reducible repeat (first | apply Kd.R_alloc | apply Kd.R_drewN | apply Kd.R_drew)); exact Kd.R_mono (Kd.R_far (p := ⟨go36, 0, none⟩) (Kd.R_types HO414.out GG36.out (by decide)) (fun _ hk => hk.2) (.int .i64 t430)) (fun _ hk => trivial)⟩
 have n2_ : Aside0 (Kd.S k38 38 (w50.setCell ⟨go36, 0, none⟩ (.int .i64 t430)) w.heap.size (fun _ => True) (.slice (some ad429) t415.length co45) y434) := ⟨zs HQ51⟩
 have n3_ : Aside0 ((w50.setCell ⟨go36, 0, none⟩ (.int .i64 t430)).heap[gb406]? = some (.cells #[.slice none 0 0, .slice none 0 0] 31 (0, 0))) := ⟨by (with_reducible repeat (first | refine blk_drewN ?_ _ | refine blk_drew ?_ | refine blk_alloc ?_ _)); refine blk_far ?_ (by have h_ := Kd.R_ne HL429_1.out BK406.out (by decide); intro e_; exact h_ (by rw [e_]; rfl)) _; (with_reducible repeat (first | refine blk_drewN ?_ _ | refine blk_drew ?_ | refine blk_alloc ?_ _)); exact BK406.out⟩
 have n4_ : Aside0 ((w50.setCell ⟨go36, 0, none⟩ (.int .i64 t430)).heap[gb419]? = some (.cells #[.slice Ao41 t412.length co41, .slice (some ad429) t415.length co45] 31 (0, 0))) := ⟨by (with_reducible repeat (first | refine blk_drewN ?_ _ | refine blk_drew ?_ | refine blk_alloc ?_ _)); refine blk_far ?_ (by have h_ := Kd.R_ne HL429_1.out BK419.out (by decide); intro e_; exact h_ (by rw [e_]; rfl)) _; (with_reducible repeat (first | refine blk_drewN ?_ _ | refine blk_drew ?_ | refine blk_alloc ?_ _)); exact BK419.out⟩
 have n5_ : Aside0 (IsS93 w0 (w50.setCell ⟨go36, 0, none⟩ (.int .i64 t430)) g s0_0 t431) := ⟨zi HI0⟩
 have n6_ : Aside0 (KeepBut w (w50.setCell ⟨go36, 0, none⟩ (.int .i64 t430)) g none) := ⟨zh HK⟩
 have n7_ : Aside0 (Below w0.heap.size w0 (w50.setCell ⟨go36, 0, none⟩ (.int .i64 t430))) := ⟨by repeat (first | (with_reducible first | exact HB.out | apply below_alloc | apply pw_below_drewN | apply below_drew1 | refine below_set ?_ (Nat.le_trans HL.out GB36.out) | refine below_set ?_ (IsS93.ge HI0.out) | refine below_set ?_ GE406.out | refine below_set ?_ GE419.out) | exact HB.out)⟩
 (try clear HO411)
 (try clear HO414)
 (try clear HO417)
 (try clear BK406)
 (try clear BK419)
 (try clear HI0)
 (try clear HK)
 (try clear HB)
 generalize (w50.setCell ⟨go36, 0, none⟩ (.int .i64 t430)) = w53 at n0_ n1_ n2_ n3_ n4_ n5_ n6_ n7_ ⊢
 have HO411 := n0_
 have HO414 := n1_
 have HO417 := n2_
 have BK406 := n3_
 have BK419 := n4_
 have HI0 := n5_
 have HK := n6_
 have HB := n7_
 clear n0_ n1_ n2_ n3_ n4_ n5_ n6_ n7_
 have hcz54_0 := ce0 BK419
 have hcz54_1 := ce1 BK419
 have hfz54_0 := bfz BK419 0
 have hfz54_1 := bfz BK419 1
 have hnb55 := NB406_0.out
 have hnc55 := NB0_406.out
 have hcz56_0 := ce0 BK406
 have hcz56_1 := ce1 BK406
 have hfz56_0 := bfz BK406 0
 have hfz56_1 := bfz BK406 1
 try go_wp2
 refine bodyPost_ret (results_cell_row rfl _ _ gb406 31 #[.slice Ao41 t412.length co41, .slice (some ad429) t415.length co45] (0, 0) _ rfl (zp BK406) Try.underlying31 rfl (by kernel_rfl)) rfl ?_
 exact ⟨_, _, zw, by (with_reducible repeat (first | apply Kd.R_alloc | apply Kd.R_drewN | apply Kd.R_drew)); exact Kd.R_mono (Kd.R_far (p := ⟨gb406, 1, none⟩) (Kd.R_far (p := ⟨gb406, 0, none⟩) (Kd.R_types HO414.out BK406.out (by decide)) (fun _ hk => hk.2) (.slice Ao41 t412.length co41)) (fun _ hk => hk.2) (.slice (some ad429) t415.length co45)) (fun _ hk => trivial), by (with_reducible repeat (first | apply Kd.S_alloc | apply Kd.S_drewN | apply Kd.S_drew)); exact Kd.S_mono (Kd.S_far (p := ⟨gb406, 1, none⟩) (Kd.S_far (p := ⟨gb406, 0, none⟩) (Kd.S_types HO417.out BK406.out (by decide)) (fun _ hk => hk.2) (.slice Ao41 t412.length co41)) (fun _ hk => hk.2) (.slice (some ad429) t415.length co45)) (fun _ hk => trivial), (zi HI0), (zb HB), (zh HK)⟩
end Go.Proofs.Ytooamacekmjpaaa.PFnVolForm
