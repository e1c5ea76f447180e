/- The walk: each function that the law comes to as a plain Lean function, and a proof that the Go code answers so. Written by this session's program over the kit's printer. -/
import Derived.Test.YtagfiehoodepbaaDoorZ
import Derived.Test.YtagfiehoodepbaaDoorQFnOpStrict0
import Derived.Test.YtagfiehoodepbaaDoorQFnOpStrict1
import Derived.Test.YtagfiehoodepbaaDoorQFnOpStrict2
import Derived.Test.YtagfiehoodepbaaDoorQFnOpStrict3
import Derived.Test.YtagfiehoodepbaaDoorQFnOpStrict5
import Derived.Test.YtagfiehoodepbaaDoorQFnOpStrict7
import Derived.Test.YtagfiehoodepbaaDoorQFnOpStrict8
import Derived.Test.YtagfiehoodepbaaDoorQFnOpStrict9
namespace Go.Proofs.YtagfiehoodepbaaDoor.PFnOpStrict
open Go.RowKit Go.Proofs.YtagfiehoodepbaaDoorW.PrintWords Go.Proofs.YtagfiehoodepbaaDoorW.PrintLast Go.Proofs.YtagfiehoodepbaaDoorW.PrintMore
attribute [local go_sem] max2_int min2_int max_two min_two max_three min_three max_four min_four   -- for this text's walks alone
set_option linter.unusedVariables false
set_option linter.unusedSimpArgs false
attribute [local go_sem high] eqA24
/-! ### spec_DrawOpRead: function 15 -/
def spec_DrawOpRead.f (k : Nat) (l0 : List Int) : Option (ByteArray) := (spec_l6Open.f l0).bind fun bt235 => ((spec_l71Op.f k bt235.1 bt235.2).bind fun bt238 => ((spec_OpText.f k bt238.1 bt238.2.1 bt238.2.2.1 bt238.2.2.2.1 bt238.2.2.2.2.1).bind fun t244 => ((spec_l6Rd_pick.f k bt235.1 bt238.2.2.2.2.2 (wrap64 ((t244.size : Int) + 1))).bind fun bt245 => ((spec_l6Rd_pick.f k bt235.1 bt245.2 7).bind fun bt247 => (if bt247.1 = 0 then (if 0 ≤ bt245.1 then (if bt245.1 ≤ (t244.size : Int) then (some (t244.extract 0 (bt245.1 : Int).toNat)) else (none)) else (none)) else (if bt247.1 = 1 then (if 0 ≤ bt245.1 then (if bt245.1 ≤ (t244.size : Int) then ((spec_l6Rd_of.f k bt235.1 bt247.2 (([(⟨#[48]⟩ : ByteArray), (⟨#[32]⟩ : ByteArray), (⟨#[97]⟩ : ByteArray), (⟨#[65]⟩ : ByteArray), (⟨#[32, 49]⟩ : ByteArray)] : List ByteArray))).bind fun bt252 => (if (t244.extract 0 (bt245.1 : Int).toNat).size + bt252.1.size ≤ 9223372036854775807 then (if ((t244.extract 0 (bt245.1 : Int).toNat) ++ bt252.1).size + (t244.extract (bt245.1 : Int).toNat t244.size).size ≤ 9223372036854775807 then (some (((t244.extract 0 (bt245.1 : Int).toNat) ++ bt252.1) ++ (t244.extract (bt245.1 : Int).toNat t244.size))) else (none)) else (none))) else (none)) else (none)) else (some t244)))))))
theorem spec_DrawOpRead.mono : ∀ a0 k, LeO (spec_DrawOpRead.f k a0) (spec_DrawOpRead.f (k + 1) a0) := by
 intro a0 k
 unfold spec_DrawOpRead.f
 exact mo4 @spec_OpText.mono @spec_l6Rd_of.mono @spec_l6Rd_pick.mono @spec_l71Op.mono
def spec_DrawOpRead.T8 : Bool × List (List Nat × List Nat) := (true, [([], []), ([], []), ([0, 1], [0, 1]), ([], []), ([], []), ([3, 4], [3, 4]), ([2, 5], [2, 5]), ([], []), ([], []), ([7, 8], [7, 8]), ([6, 9], [6, 9]), ([10, 5, 0, 1, 2, 3, 4, 5, 6, 7, 8, 9, 10], [10])])
def spec_DrawOpRead.B8 : List Nat := [0, 0, 3, 0, 0, 24, 63, 0, 0, 384, 1023, 2047]
theorem spec_DrawOpRead.tab8 : rtab .any (opsOf Tryd.f15 8) = spec_DrawOpRead.T8 := by kernel_rfl
theorem spec_DrawOpRead.bits8 : waitsOk spec_DrawOpRead.T8.2 spec_DrawOpRead.B8 = true := by kernel_rfl
set_option maxHeartbeats 8000000 in
set_option maxRecDepth 100000 in
theorem spec_DrawOpRead.calls (k : Nat) (A0 : Option Addr) (c0 : Nat) (l0 : List Int) (r : ByteArray) (w : World) (hr0 : Kd.C (Kd.int .u8) w A0 l0.length l0) (hc0 : l0.length ≤ c0) (h : spec_DrawOpRead.f k l0 = some r) :
 Calls Tryd.prog 15 #[.slice A0 l0.length c0] w fun e w' => e = .returned (.string r) ∧ Below w.heap.size w w' := by
 have HR0 := am hr0
 have HC0 := am hc0
 clear hr0 hc0
 have HB := am (Below.refl w.heap.size w)
 have H : ((spec_l6Open.f l0).bind fun bt235 => ((spec_l71Op.f k bt235.1 bt235.2).bind fun bt238 => ((spec_OpText.f k bt238.1 bt238.2.1 bt238.2.2.1 bt238.2.2.2.1 bt238.2.2.2.2.1).bind fun t244 => ((spec_l6Rd_pick.f k bt235.1 bt238.2.2.2.2.2 (wrap64 ((t244.size : Int) + 1))).bind fun bt245 => ((spec_l6Rd_pick.f k bt235.1 bt245.2 7).bind fun bt247 => (if bt247.1 = 0 then (if 0 ≤ bt245.1 then (if bt245.1 ≤ (t244.size : Int) then (some (t244.extract 0 (bt245.1 : Int).toNat)) else (none)) else (none)) else (if bt247.1 = 1 then (if 0 ≤ bt245.1 then (if bt245.1 ≤ (t244.size : Int) then ((spec_l6Rd_of.f k bt235.1 bt247.2 (([(⟨#[48]⟩ : ByteArray), (⟨#[32]⟩ : ByteArray), (⟨#[97]⟩ : ByteArray), (⟨#[65]⟩ : ByteArray), (⟨#[32, 49]⟩ : ByteArray)] : List ByteArray))).bind fun bt252 => (if (t244.extract 0 (bt245.1 : Int).toNat).size + bt252.1.size ≤ 9223372036854775807 then (if ((t244.extract 0 (bt245.1 : Int).toNat) ++ bt252.1).size + (t244.extract (bt245.1 : Int).toNat t244.size).size ≤ 9223372036854775807 then (some (((t244.extract 0 (bt245.1 : Int).toNat) ++ bt252.1) ++ (t244.extract (bt245.1 : Int).toNat t244.size))) else (none)) else (none))) else (none)) else (none)) else (some t244)))))))) = some r := h
 clear h
 replace H := obs H
 obtain ⟨⟨t235, t236⟩, A20, H⟩ := H
 replace H : ((spec_l71Op.f k t235 t236).bind fun bt238 => ((spec_OpText.f k bt238.1 bt238.2.1 bt238.2.2.1 bt238.2.2.2.1 bt238.2.2.2.2.1).bind fun t244 => ((spec_l6Rd_pick.f k t235 bt238.2.2.2.2.2 (wrap64 ((t244.size : Int) + 1))).bind fun bt245 => ((spec_l6Rd_pick.f k t235 bt245.2 7).bind fun bt247 => (if bt247.1 = 0 then (if 0 ≤ bt245.1 then (if bt245.1 ≤ (t244.size : Int) then (some (t244.extract 0 (bt245.1 : Int).toNat)) else (none)) else (none)) else (if bt247.1 = 1 then (if 0 ≤ bt245.1 then (if bt245.1 ≤ (t244.size : Int) then ((spec_l6Rd_of.f k t235 bt247.2 (([(⟨#[48]⟩ : ByteArray), (⟨#[32]⟩ : ByteArray), (⟨#[97]⟩ : ByteArray), (⟨#[65]⟩ : ByteArray), (⟨#[32, 49]⟩ : ByteArray)] : List ByteArray))).bind fun bt252 => (if (t244.extract 0 (bt245.1 : Int).toNat).size + bt252.1.size ≤ 9223372036854775807 then (if ((t244.extract 0 (bt245.1 : Int).toNat) ++ bt252.1).size + (t244.extract (bt245.1 : Int).toNat t244.size).size ≤ 9223372036854775807 then (some (((t244.extract 0 (bt245.1 : Int).toNat) ++ bt252.1) ++ (t244.extract (bt245.1 : Int).toNat t244.size))) else (none)) else (none))) else (none)) else (none)) else (some t244))))))) = some r := H
 have A2 := am A20
 clear A20
 replace H := obs H
 obtain ⟨⟨t238, t239, t240, t241, t242, t243⟩, A30, H⟩ := H
 replace H : ((spec_OpText.f k t238 t239 t240 t241 t242).bind fun t244 => ((spec_l6Rd_pick.f k t235 t243 (wrap64 ((t244.size : Int) + 1))).bind fun bt245 => ((spec_l6Rd_pick.f k t235 bt245.2 7).bind fun bt247 => (if bt247.1 = 0 then (if 0 ≤ bt245.1 then (if bt245.1 ≤ (t244.size : Int) then (some (t244.extract 0 (bt245.1 : Int).toNat)) else (none)) else (none)) else (if bt247.1 = 1 then (if 0 ≤ bt245.1 then (if bt245.1 ≤ (t244.size : Int) then ((spec_l6Rd_of.f k t235 bt247.2 (([(⟨#[48]⟩ : ByteArray), (⟨#[32]⟩ : ByteArray), (⟨#[97]⟩ : ByteArray), (⟨#[65]⟩ : ByteArray), (⟨#[32, 49]⟩ : ByteArray)] : List ByteArray))).bind fun bt252 => (if (t244.extract 0 (bt245.1 : Int).toNat).size + bt252.1.size ≤ 9223372036854775807 then (if ((t244.extract 0 (bt245.1 : Int).toNat) ++ bt252.1).size + (t244.extract (bt245.1 : Int).toNat t244.size).size ≤ 9223372036854775807 then (some (((t244.extract 0 (bt245.1 : Int).toNat) ++ bt252.1) ++ (t244.extract (bt245.1 : Int).toNat t244.size))) else (none)) else (none))) else (none)) else (none)) else (some t244)))))) = some r := H
 have A3 := am A30
 clear A30
 replace H := obs H
 obtain ⟨t244, A40, H⟩ := H
 replace H : ((spec_l6Rd_pick.f k t235 t243 (wrap64 ((t244.size : Int) + 1))).bind fun bt245 => ((spec_l6Rd_pick.f k t235 bt245.2 7).bind fun bt247 => (if bt247.1 = 0 then (if 0 ≤ bt245.1 then (if bt245.1 ≤ (t244.size : Int) then (some (t244.extract 0 (bt245.1 : Int).toNat)) else (none)) else (none)) else (if bt247.1 = 1 then (if 0 ≤ bt245.1 then (if bt245.1 ≤ (t244.size : Int) then ((spec_l6Rd_of.f k t235 bt247.2 (([(⟨#[48]⟩ : ByteArray), (⟨#[32]⟩ : ByteArray), (⟨#[97]⟩ : ByteArray), (⟨#[65]⟩ : ByteArray), (⟨#[32, 49]⟩ : ByteArray)] : List ByteArray))).bind fun bt252 => (if (t244.extract 0 (bt245.1 : Int).toNat).size + bt252.1.size ≤ 9223372036854775807 then (if ((t244.extract 0 (bt245.1 : Int).toNat) ++ bt252.1).size + (t244.extract (bt245.1 : Int).toNat t244.size).size ≤ 9223372036854775807 then (some (((t244.extract 0 (bt245.1 : Int).toNat) ++ bt252.1) ++ (t244.extract (bt245.1 : Int).toNat t244.size))) else (none)) else (none))) else (none)) else (none)) else (some t244))))) = some r := H
 have A4 := am A40
 clear A40
 replace H := obs H
 obtain ⟨⟨t245, t246⟩, A50, H⟩ := H
 replace H : ((spec_l6Rd_pick.f k t235 t246 7).bind fun bt247 => (if bt247.1 = 0 then (if 0 ≤ t245 then (if t245 ≤ (t244.size : Int) then (some (t244.extract 0 (t245 : Int).toNat)) else (none)) else (none)) else (if bt247.1 = 1 then (if 0 ≤ t245 then (if t245 ≤ (t244.size : Int) then ((spec_l6Rd_of.f k t235 bt247.2 (([(⟨#[48]⟩ : ByteArray), (⟨#[32]⟩ : ByteArray), (⟨#[97]⟩ : ByteArray), (⟨#[65]⟩ : ByteArray), (⟨#[32, 49]⟩ : ByteArray)] : List ByteArray))).bind fun bt252 => (if (t244.extract 0 (t245 : Int).toNat).size + bt252.1.size ≤ 9223372036854775807 then (if ((t244.extract 0 (t245 : Int).toNat) ++ bt252.1).size + (t244.extract (t245 : Int).toNat t244.size).size ≤ 9223372036854775807 then (some (((t244.extract 0 (t245 : Int).toNat) ++ bt252.1) ++ (t244.extract (t245 : Int).toNat t244.size))) else (none)) else (none))) else (none)) else (none)) else (some t244)))) = some r := H
 have A5 := am A50
 clear A50
 replace H := obs H
 obtain ⟨⟨t247, t248⟩, A60, H⟩ := H
 replace H : (if t247 = 0 then (if 0 ≤ t245 then (if t245 ≤ (t244.size : Int) then (some (t244.extract 0 (t245 : Int).toNat)) else (none)) else (none)) else (if t247 = 1 then (if 0 ≤ t245 then (if t245 ≤ (t244.size : Int) then ((spec_l6Rd_of.f k t235 t248 (([(⟨#[48]⟩ : ByteArray), (⟨#[32]⟩ : ByteArray), (⟨#[97]⟩ : ByteArray), (⟨#[65]⟩ : ByteArray), (⟨#[32, 49]⟩ : ByteArray)] : List ByteArray))).bind fun bt252 => (if (t244.extract 0 (t245 : Int).toNat).size + bt252.1.size ≤ 9223372036854775807 then (if ((t244.extract 0 (t245 : Int).toNat) ++ bt252.1).size + (t244.extract (t245 : Int).toNat t244.size).size ≤ 9223372036854775807 then (some (((t244.extract 0 (t245 : Int).toNat) ++ bt252.1) ++ (t244.extract (t245 : Int).toNat t244.size))) else (none)) else (none))) else (none)) else (none)) else (some t244))) = some r := H
 have A6 := am A60
 clear A60
 by_cases c7 : t247 = 0
 · rw [if_pos c7] at H
   have c7b0 : (t247 == 0) = true := beq_iff_eq.mpr c7
   have c7b1 : (t247 != 0) = false := bne_eq_false_iff_eq.mpr c7
   clear c7
   by_cases c8 : 0 ≤ t245
   rotate_left
   · rw [if_neg c8] at H
     exact absurd H (by simp)
   rw [if_pos c8] at H
   have c8b0 := eq_true c8
   have c8b1 : decide (0 ≤ t245) = true := decide_eq_true c8
   clear c8
   by_cases c9 : t245 ≤ (t244.size : Int)
   rotate_left
   · rw [if_neg c9] at H
     exact absurd H (by simp)
   rw [if_pos c9] at H
   have c9b0 := eq_true c9
   have c9b1 : decide (t245 ≤ (t244.size : Int)) = true := decide_eq_true c9
   clear c9
   obtain rfl := Option.some.inj H
   go_enter Tryd.func15, Tryd.ntmps15
   go_wp2_with (first | ((with_reducible refine gate_callee (f := 21) rfl ?_); refine goesL_ (some 7) rfl rfl Tryd.func21 (by kernel_rfl) rfl #[.slice A0 l0.length c0] rfl (by (try simp only [List.map_toArray, List.map_cons, List.map_nil]); first | done | rfl | (simp only [List.length_drop, List.length_take]; rfl)) ?_; (with_reducible refine (spec_l6Open.calls _ _ l0 t235 t236 w _ ?side1 ?side2 ?side3 A2.out).mono ?_); (case side1 => exact zb HB); (case side2 => exact HR0.out); (case side3 => exact HC0.out); rintro e w10 ⟨g237, rfl, hi, hb, hb2⟩; refine ⟨_, rfl, ?_⟩; replace HB := am (hb); have HI237 := am (hi); (try clear hb); (try clear hb2); (try clear hk); (try clear hi)) | ((with_reducible refine gate_callee (f := 20) rfl ?_); refine goesL_ (some 9) rfl rfl Tryd.func20 (by kernel_rfl) rfl #[.pointer (some ⟨g237, 0, none⟩)] rfl (by (try simp only [List.map_toArray, List.map_cons, List.map_nil]); first | done | rfl | (simp only [List.length_drop, List.length_take]; rfl)) ?_; (with_reducible refine (spec_l71Op.calls k g237 t235 t236 t238 t239 t240 t241 t242 t243 w _ ?side1 ?side2 A3.out).mono ?_); (case side1 => exact zi HI237); (case side2 => exact zb HB); rintro e w11 ⟨rfl, hi, hb, hk⟩; refine ⟨_, rfl, ?_⟩; replace HB := am (hb); replace HI237 := am (hi); (try clear hb); (try clear hb2); (try clear hk); (try clear hi)) | ((with_reducible refine gate_callee (f := 11) rfl ?_); refine goesL_ (some 10) rfl rfl Tryd.func11 (by kernel_rfl) rfl #[.agg #[.int .i64 t238, .string t239, .string t240, .int .i64 t241, .string t242]] rfl (by (try simp only [List.map_toArray, List.map_cons, List.map_nil]); first | done | rfl | (simp only [List.length_drop, List.length_take]; rfl)) ?_; (with_reducible refine (spec_OpText.calls k t238 t239 t240 t241 t242 t244 _ A4.out).mono ?_); rintro e w12 ⟨rfl, hb⟩; refine ⟨_, rfl, ?_⟩; replace HI237 := am (IsS57.below (zi HI237) hb); replace HB := am (below_step (zb HB) hb); (try clear hb); (try clear hb2); (try clear hk); (try clear hi)) | ((with_reducible refine gate_callee (f := 30) rfl ?_); refine goesL_ (some 15) rfl rfl Tryd.func30 (by kernel_rfl) rfl #[.pointer (some ⟨g237, 0, none⟩), .int .i64 (wrap64 ((t244.size : Int) + 1))] rfl (by (try simp only [List.map_toArray, List.map_cons, List.map_nil]); first | done | rfl | (simp only [List.length_drop, List.length_take]; rfl)) ?_; (with_reducible refine (spec_l6Rd_pick.calls k g237 t235 t243 (wrap64 ((t244.size : Int) + 1)) t245 t246 w _ ?side1 ?side2 A5.out).mono ?_); (case side1 => exact zi HI237); (case side2 => exact zb HB); rintro e w13 ⟨rfl, hi, hb, hk⟩; refine ⟨_, rfl, ?_⟩; replace HB := am (hb); replace HI237 := am (hi); (try clear hb); (try clear hb2); (try clear hk); (try clear hi)) | ((with_reducible refine gate_callee (f := 30) rfl ?_); refine goesL_ (some 17) rfl rfl Tryd.func30 (by kernel_rfl) rfl #[.pointer (some ⟨g237, 0, none⟩), .int .i64 7] rfl (by (try simp only [List.map_toArray, List.map_cons, List.map_nil]); first | done | rfl | (simp only [List.length_drop, List.length_take]; rfl)) ?_; (with_reducible refine (spec_l6Rd_pick.calls k g237 t235 t246 7 t247 t248 w _ ?side1 ?side2 A6.out).mono ?_); (case side1 => exact zi HI237); (case side2 => exact zb HB); rintro e w14 ⟨rfl, hi, hb, hk⟩; refine ⟨_, rfl, ?_⟩; replace HB := am (hb); replace HI237 := am (hi); (try clear hb); (try clear hb2); (try clear hk); (try clear hi)))
   go_ret
   exact ⟨zv, (zb HB)⟩
 rw [if_neg c7] at H
 have c7b0 : (t247 == 0) = false := beq_eq_false_iff_ne.mpr c7
 have c7b1 : (t247 != 0) = true := bne_iff_ne.mpr c7
 by_cases c15 : t247 = 1
 rotate_left
 · rw [if_neg c15] at H
   have c15b0 : (t247 == 1) = false := beq_eq_false_iff_ne.mpr c15
   have c15b1 : (t247 != 1) = true := bne_iff_ne.mpr c15
   obtain rfl := Option.some.inj H
   go_enter Tryd.func15, Tryd.ntmps15
   go_wp2_with (first | ((with_reducible refine gate_callee (f := 21) rfl ?_); refine goesL_ (some 7) rfl rfl Tryd.func21 (by kernel_rfl) rfl #[.slice A0 l0.length c0] rfl (by (try simp only [List.map_toArray, List.map_cons, List.map_nil]); first | done | rfl | (simp only [List.length_drop, List.length_take]; rfl)) ?_; (with_reducible refine (spec_l6Open.calls _ _ l0 t235 t236 w _ ?side1 ?side2 ?side3 A2.out).mono ?_); (case side1 => exact zb HB); (case side2 => exact HR0.out); (case side3 => exact HC0.out); rintro e w33 ⟨g237, rfl, hi, hb, hb2⟩; refine ⟨_, rfl, ?_⟩; replace HB := am (hb); have HI237 := am (hi); (try clear hb); (try clear hb2); (try clear hk); (try clear hi)) | ((with_reducible refine gate_callee (f := 20) rfl ?_); refine goesL_ (some 9) rfl rfl Tryd.func20 (by kernel_rfl) rfl #[.pointer (some ⟨g237, 0, none⟩)] rfl (by (try simp only [List.map_toArray, List.map_cons, List.map_nil]); first | done | rfl | (simp only [List.length_drop, List.length_take]; rfl)) ?_; (with_reducible refine (spec_l71Op.calls k g237 t235 t236 t238 t239 t240 t241 t242 t243 w _ ?side1 ?side2 A3.out).mono ?_); (case side1 => exact zi HI237); (case side2 => exact zb HB); rintro e w34 ⟨rfl, hi, hb, hk⟩; refine ⟨_, rfl, ?_⟩; replace HB := am (hb); replace HI237 := am (hi); (try clear hb); (try clear hb2); (try clear hk); (try clear hi)) | ((with_reducible refine gate_callee (f := 11) rfl ?_); refine goesL_ (some 10) rfl rfl Tryd.func11 (by kernel_rfl) rfl #[.agg #[.int .i64 t238, .string t239, .string t240, .int .i64 t241, .string t242]] rfl (by (try simp only [List.map_toArray, List.map_cons, List.map_nil]); first | done | rfl | (simp only [List.length_drop, List.length_take]; rfl)) ?_; (with_reducible refine (spec_OpText.calls k t238 t239 t240 t241 t242 t244 _ A4.out).mono ?_); rintro e w35 ⟨rfl, hb⟩; refine ⟨_, rfl, ?_⟩; replace HI237 := am (IsS57.below (zi HI237) hb); replace HB := am (below_step (zb HB) hb); (try clear hb); (try clear hb2); (try clear hk); (try clear hi)) | ((with_reducible refine gate_callee (f := 30) rfl ?_); refine goesL_ (some 15) rfl rfl Tryd.func30 (by kernel_rfl) rfl #[.pointer (some ⟨g237, 0, none⟩), .int .i64 (wrap64 ((t244.size : Int) + 1))] rfl (by (try simp only [List.map_toArray, List.map_cons, List.map_nil]); first | done | rfl | (simp only [List.length_drop, List.length_take]; rfl)) ?_; (with_reducible refine (spec_l6Rd_pick.calls k g237 t235 t243 (wrap64 ((t244.size : Int) + 1)) t245 t246 w _ ?side1 ?side2 A5.out).mono ?_); (case side1 => exact zi HI237); (case side2 => exact zb HB); rintro e w36 ⟨rfl, hi, hb, hk⟩; refine ⟨_, rfl, ?_⟩; replace HB := am (hb); replace HI237 := am (hi); (try clear hb); (try clear hb2); (try clear hk); (try clear hi)) | ((with_reducible refine gate_callee (f := 30) rfl ?_); refine goesL_ (some 17) rfl rfl Tryd.func30 (by kernel_rfl) rfl #[.pointer (some ⟨g237, 0, none⟩), .int .i64 7] rfl (by (try simp only [List.map_toArray, List.map_cons, List.map_nil]); first | done | rfl | (simp only [List.length_drop, List.length_take]; rfl)) ?_; (with_reducible refine (spec_l6Rd_pick.calls k g237 t235 t246 7 t247 t248 w _ ?side1 ?side2 A6.out).mono ?_); (case side1 => exact zi HI237); (case side2 => exact zb HB); rintro e w37 ⟨rfl, hi, hb, hk⟩; refine ⟨_, rfl, ?_⟩; replace HB := am (hb); replace HI237 := am (hi); (try clear hb); (try clear hb2); (try clear hk); (try clear hi)))
   go_ret
   exact ⟨zv, (zb HB)⟩
 rw [if_pos c15] at H
 have c15b0 : (t247 == 1) = true := beq_iff_eq.mpr c15
 have c15b1 : (t247 != 1) = false := bne_eq_false_iff_eq.mpr c15
 clear c15
 by_cases c16 : 0 ≤ t245
 rotate_left
 · rw [if_neg c16] at H
   exact absurd H (by simp)
 rw [if_pos c16] at H
 have c16b0 := eq_true c16
 have c16b1 : decide (0 ≤ t245) = true := decide_eq_true c16
 clear c16
 by_cases c17 : t245 ≤ (t244.size : Int)
 rotate_left
 · rw [if_neg c17] at H
   exact absurd H (by simp)
 rw [if_pos c17] at H
 have c17b0 := eq_true c17
 have c17b1 : decide (t245 ≤ (t244.size : Int)) = true := decide_eq_true c17
 clear c17
 obtain ⟨y249, hy249⟩ : ∃ y_ : List ByteArray, y_ = (([(⟨#[48]⟩ : ByteArray), (⟨#[32]⟩ : ByteArray), (⟨#[97]⟩ : ByteArray), (⟨#[65]⟩ : ByteArray), (⟨#[32, 49]⟩ : ByteArray)] : List ByteArray)) := ⟨_, rfl⟩
 replace H : ((spec_l6Rd_of.f k t235 t248 y249).bind fun bt252 => (if (t244.extract 0 (t245 : Int).toNat).size + bt252.1.size ≤ 9223372036854775807 then (if ((t244.extract 0 (t245 : Int).toNat) ++ bt252.1).size + (t244.extract (t245 : Int).toNat t244.size).size ≤ 9223372036854775807 then (some (((t244.extract 0 (t245 : Int).toNat) ++ bt252.1) ++ (t244.extract (t245 : Int).toNat t244.size))) else (none)) else (none))) = some r := hY hy249 H
 have Ny249 := am hy249
 clear hy249
 replace H := obs H
 obtain ⟨⟨t252, t253⟩, A180, H⟩ := H
 replace H : (if (t244.extract 0 (t245 : Int).toNat).size + t252.size ≤ 9223372036854775807 then (if ((t244.extract 0 (t245 : Int).toNat) ++ t252).size + (t244.extract (t245 : Int).toNat t244.size).size ≤ 9223372036854775807 then (some (((t244.extract 0 (t245 : Int).toNat) ++ t252) ++ (t244.extract (t245 : Int).toNat t244.size))) else (none)) else (none)) = some r := H
 have A18 := am A180
 clear A180
 by_cases c19 : (t244.extract 0 (t245 : Int).toNat).size + t252.size ≤ 9223372036854775807
 rotate_left
 · rw [if_neg c19] at H
   exact absurd H (by simp)
 rw [if_pos c19] at H
 have c19b0 := eq_true c19
 have c19b1 : decide ((t244.extract 0 (t245 : Int).toNat).size + t252.size ≤ 9223372036854775807) = true := decide_eq_true c19
 try have c19b2 : (9223372036854775807 < (t244.extract 0 (t245 : Int).toNat).size + t252.size) = False := eq_false (Nat.not_lt.2 c19)
 have c19b3 : (9223372036854775807 < t245.toNat + t252.size) = False := eq_false (by have h_ := c19; have a_ := of_eq_true c17b0; have z_ := of_eq_true c16b0; rw [ByteArray.size_extract] at h_; omega)
 have c20b0 := eq_true (of_decide_eq_true zl : 0 ≤ t245)
 have c21b0 := eq_true (of_decide_eq_true zl : t245 ≤ (t244.size : Int))
 by_cases c22 : ((t244.extract 0 (t245 : Int).toNat) ++ t252).size + (t244.extract (t245 : Int).toNat t244.size).size ≤ 9223372036854775807
 rotate_left
 · rw [if_neg c22] at H
   exact absurd H (by simp)
 rw [if_pos c22] at H
 have c22b0 := eq_true c22
 have c22b1 : decide (((t244.extract 0 (t245 : Int).toNat) ++ t252).size + (t244.extract (t245 : Int).toNat t244.size).size ≤ 9223372036854775807) = true := decide_eq_true c22
 try have c22b2 : (9223372036854775807 < ((t244.extract 0 (t245 : Int).toNat) ++ t252).size + (t244.extract (t245 : Int).toNat t244.size).size) = False := eq_false (Nat.not_lt.2 c22)
 have c22b3 : (9223372036854775807 < t245.toNat + t252.size + (t244.size - t245.toNat)) = False := eq_false (by have h_ := c22; have a_ := of_eq_true c17b0; have z_ := of_eq_true c16b0; rw [ByteArray.size_append, ByteArray.size_extract, ByteArray.size_extract] at h_; omega)
 obtain rfl := Option.some.inj H
 go_enter Tryd.func15, Tryd.ntmps15
 try go_wp2_with (first | ((with_reducible refine gate_callee (f := 21) rfl ?_); refine goesL_ (some 7) rfl rfl Tryd.func21 (by kernel_rfl) rfl #[.slice A0 l0.length c0] rfl (by (try simp only [List.map_toArray, List.map_cons, List.map_nil]); first | done | rfl | (simp only [List.length_drop, List.length_take]; rfl)) ?_; (with_reducible refine (spec_l6Open.calls _ _ l0 t235 t236 w _ ?side1 ?side2 ?side3 A2.out).mono ?_); (case side1 => exact zb HB); (case side2 => exact HR0.out); (case side3 => exact HC0.out); rintro e w23 ⟨g237, rfl, hi, hb, hb2⟩; refine ⟨_, rfl, ?_⟩; replace HB := am (hb); have HI237 := am (hi); (try clear hb); (try clear hb2); (try clear hk); (try clear hi)) | ((with_reducible refine gate_callee (f := 20) rfl ?_); refine goesL_ (some 9) rfl rfl Tryd.func20 (by kernel_rfl) rfl #[.pointer (some ⟨g237, 0, none⟩)] rfl (by (try simp only [List.map_toArray, List.map_cons, List.map_nil]); first | done | rfl | (simp only [List.length_drop, List.length_take]; rfl)) ?_; (with_reducible refine (spec_l71Op.calls k g237 t235 t236 t238 t239 t240 t241 t242 t243 w _ ?side1 ?side2 A3.out).mono ?_); (case side1 => exact zi HI237); (case side2 => exact zb HB); rintro e w24 ⟨rfl, hi, hb, hk⟩; refine ⟨_, rfl, ?_⟩; replace HB := am (hb); replace HI237 := am (hi); (try clear hb); (try clear hb2); (try clear hk); (try clear hi)) | ((with_reducible refine gate_callee (f := 11) rfl ?_); refine goesL_ (some 10) rfl rfl Tryd.func11 (by kernel_rfl) rfl #[.agg #[.int .i64 t238, .string t239, .string t240, .int .i64 t241, .string t242]] rfl (by (try simp only [List.map_toArray, List.map_cons, List.map_nil]); first | done | rfl | (simp only [List.length_drop, List.length_take]; rfl)) ?_; (with_reducible refine (spec_OpText.calls k t238 t239 t240 t241 t242 t244 _ A4.out).mono ?_); rintro e w25 ⟨rfl, hb⟩; refine ⟨_, rfl, ?_⟩; replace HI237 := am (IsS57.below (zi HI237) hb); replace HB := am (below_step (zb HB) hb); (try clear hb); (try clear hb2); (try clear hk); (try clear hi)) | ((with_reducible refine gate_callee (f := 30) rfl ?_); refine goesL_ (some 15) rfl rfl Tryd.func30 (by kernel_rfl) rfl #[.pointer (some ⟨g237, 0, none⟩), .int .i64 (wrap64 ((t244.size : Int) + 1))] rfl (by (try simp only [List.map_toArray, List.map_cons, List.map_nil]); first | done | rfl | (simp only [List.length_drop, List.length_take]; rfl)) ?_; (with_reducible refine (spec_l6Rd_pick.calls k g237 t235 t243 (wrap64 ((t244.size : Int) + 1)) t245 t246 w _ ?side1 ?side2 A5.out).mono ?_); (case side1 => exact zi HI237); (case side2 => exact zb HB); rintro e w26 ⟨rfl, hi, hb, hk⟩; refine ⟨_, rfl, ?_⟩; replace HB := am (hb); replace HI237 := am (hi); (try clear hb); (try clear hb2); (try clear hk); (try clear hi)) | ((with_reducible refine gate_callee (f := 30) rfl ?_); refine goesL_ (some 17) rfl rfl Tryd.func30 (by kernel_rfl) rfl #[.pointer (some ⟨g237, 0, none⟩), .int .i64 7] rfl (by (try simp only [List.map_toArray, List.map_cons, List.map_nil]); first | done | rfl | (simp only [List.length_drop, List.length_take]; rfl)) ?_; (with_reducible refine (spec_l6Rd_pick.calls k g237 t235 t246 7 t247 t248 w _ ?side1 ?side2 A6.out).mono ?_); (case side1 => exact zi HI237); (case side2 => exact zb HB); rintro e w27 ⟨rfl, hi, hb, hk⟩; refine ⟨_, rfl, ?_⟩; replace HB := am (hb); replace HI237 := am (hi); (try clear hb); (try clear hb2); (try clear hk); (try clear hi)))
 replace HI237 := am (IsS57.drew HI237.out)
 replace HB := am (below_drew1 HB.out)
 refine start_ (n := 12) (S := fun w' => True) (ds := []) (bs 12 0) (by kernel_rfl) rfl rfl trivial (fun hHeld => ?_); refine with_tabW spec_DrawOpRead.tab8 spec_DrawOpRead.bits8 (fun HT_ HW_ => ?_)
 generalize w27.drew = w28 at HI237 HB hHeld ⊢
 refine pu 0 25 12 1 rfl rfl ?_
 refine pu 1 26 12 3 rfl rfl ?_
 refine pu 2 27 12 7 rfl rfl ?_
 refine pu 3 28 12 15 rfl rfl ?_
 refine pu 7 32 12 143 rfl rfl ?_
 refine pu 8 33 12 399 rfl rfl ?_
 refine pu 9 34 12 911 rfl rfl ?_
 refine oz 4 12 927 rfl rfl (fun K hK => ?_)
 refine Kd.R_lit_step Kd.string _ 9 ?hg (N := 29) ?hd (xs := ([(⟨#[48]⟩ : ByteArray), (⟨#[32]⟩ : ByteArray), (⟨#[97]⟩ : ByteArray), (⟨#[65]⟩ : ByteArray), (⟨#[32, 49]⟩ : ByteArray)] : List ByteArray)) (inner := [.string (⟨#[48]⟩ : ByteArray), .string (⟨#[32]⟩ : ByteArray), .string (⟨#[97]⟩ : ByteArray), .string (⟨#[65]⟩ : ByteArray), .string (⟨#[32, 49]⟩ : ByteArray)]) (ok := fun _ => True) (okp := fun _ => True) ?hr ?hp (fun _ hk => hk) trivial (Below.refl _ _) (Nat.le_refl _) (by simp) ?_; (case hd => rfl); (case hg => rfl); (case hr => first | (go_simp; done) | (go_simp; rfl)); (case hp => exact (Reps.one (show Kd.M Kd.string _ _ _ (⟨#[48]⟩ : ByteArray) [.string (⟨#[48]⟩ : ByteArray)] from rfl) (Reps.one (show Kd.M Kd.string _ _ _ (⟨#[32]⟩ : ByteArray) [.string (⟨#[32]⟩ : ByteArray)] from rfl) (Reps.one (show Kd.M Kd.string _ _ _ (⟨#[97]⟩ : ByteArray) [.string (⟨#[97]⟩ : ByteArray)] from rfl) (Reps.one (show Kd.M Kd.string _ _ _ (⟨#[65]⟩ : ByteArray) [.string (⟨#[65]⟩ : ByteArray)] from rfl) (Reps.one (show Kd.M Kd.string _ _ _ (⟨#[32, 49]⟩ : ByteArray) [.string (⟨#[32, 49]⟩ : ByteArray)] from rfl) (Reps.none _ _)))))))
 intro v250 w29 ho30 hb hg_ hnew_
 clear hg_ hnew_
 (first | rw [← Ny249.out] at ho30 | (simp only [Int.reduceToNat] at ho30; rw [← Ny249.out] at ho30))
 have HO251 := am (Kd.R_lower ho30 (below_size (zb HB)))
 replace HI237 := am (IsS57.below (zi HI237) hb)
 replace HB := am (below_step (zb HB) hb)
 clear hb ho30
 obtain ⟨Ao31, co31, eo31⟩ := Kd.R_slice HO251.out
 (first | subst eo31 | (injection eo31 with f1_ f2_ f3_; have f4_ := f1_.symm; have f5_ := f3_.symm; clear f1_ f2_ f3_; subst f4_; subst f5_))
 refine hK.out _ _ trivial (fun hHeld => ?_)
 clear hK K
 refine norm_ (a' := ?_) ?_ ?_
 rotate_left
 · show Act.put _ (some 29) _ = _
   simp only [Act.put, List.setIfInBounds_toArray, List.set_cons_zero, List.set_cons_succ, i64_w, i32_w]
   rfl
 refine oz 5 12 959 rfl rfl (fun K hK => ?_)
 refine goes_ Tryd.func31 (by kernel_rfl) rfl #[.pointer (some ⟨g237, 0, none⟩), .slice Ao31 y249.length co31] (by rfl) rfl rfl (by (try simp only [List.map_toArray, List.map_cons, List.map_nil]); first | done | rfl | (simp only [List.length_drop, List.length_take]; rfl)) ?_
 with_reducible refine (spec_l6Rd_of.calls k g237 t235 t248 _ _ y249 t252 t253 w _ ?side1 ?side2 ?side3 ?side4 ?side5 A18.out).mono ?_
 (case side1 => exact zi HI237)
 (case side2 => exact zb HB)
 (case side3 => exact zc (Kd.R_reads' HO251.out).2.2)
 (case side4 => exact (Kd.R_reads' HO251.out).2.1)
 (case side5 => exact far_slice (IsS57.own_ne HI237.out HO251.out (by decide)))
 rintro e w32 ⟨rfl, hi, hb, hk⟩
 refine ⟨_, rfl, ?_⟩
 replace HO251 := am (Kd.R_mono (Kd.R_keep (IsS57.apart (zi HI237) (zr HO251) (by decide)) hk (fun _ h => h.2)) (fun _ h => h.1))
 replace HB := am (hb)
 replace HI237 := am (hi)
 (try clear hb)
 (try clear hb2)
 (try clear hk)
 (try clear hi)
 refine hK.out _ _ trivial (fun hHeld => ?_)
 clear hK K
 refine norm_ (a' := ?_) ?_ ?_
 rotate_left
 · show Act.put _ (some 30) _ = _
   simp only [Act.put, List.setIfInBounds_toArray, List.set_cons_zero, List.set_cons_succ, i64_w, i32_w]
   rfl
 refine pu 6 31 12 1023 rfl rfl ?_
 refine pu 10 35 12 2047 rfl rfl ?_
 refine pu 11 2 12 4095 rfl rfl ?_
 refine done_ (done_of HT_.out (by kernel_rfl)) ?_
 try go_wp2
 go_ret
 exact ⟨zv, (zb HB)⟩
/-! ### laws_FnOpStrict: function 5 -/
def laws_FnOpStrict.j0 : Nat → ByteArray → Bool → Bool → Bool → Int → ByteArray → ByteArray → Int → ByteArray → Int → ByteArray → ByteArray → Int → ByteArray → Option (Bool)
 | 0, _, _, _, _, _, _, _, _, _, _, _, _, _, _ => none
 | k + 1, x3, x5, x7, x34, x262000, x262001, x262002, x262003, x262004, x269000, x269001, x269002, x269003, x269004 => if x34 = true then (if (x7 == x5) = true then (some (x269000 == x262000 && (x269001.toList == x262001.toList && (x269002.toList == x262002.toList && (x269003 == x262003 && (x269004.toList == x262004.toList)))))) else (some false)) else ((impl_OpOk.f k x269000 x269001 x269002 x269003 x269004).bind fun t269 => (if t269 = true then ((impl_OpText.f k x269000 x269001 x269002 x269003 x269004).bind fun t270 => (some (t270.toList == x3.toList))) else (some false)))
def laws_FnOpStrict.f (k : Nat) (l0 : List Int) : Option (Bool) := if (l0.length : Int) > 1048576 then (some true) else ((spec_DrawOpRead.f k l0).bind fun t254 => ((spec_OpRead.f k t254).bind fun bt255 => ((impl_OpRead.f k t254).bind fun bt262 => (if (bt262.2.2.2.2.2 != bt255.2.2.2.2.2) = true then (laws_FnOpStrict.j0 k t254 bt255.2.2.2.2.2 bt262.2.2.2.2.2 true bt255.1 bt255.2.1 bt255.2.2.1 bt255.2.2.2.1 bt255.2.2.2.2.1 bt262.1 bt262.2.1 bt262.2.2.1 bt262.2.2.2.1 bt262.2.2.2.2.1) else (if (!(bt262.1 == bt255.1) || (!(bt262.2.1.toList == bt255.2.1.toList) || (!(bt262.2.2.1.toList == bt255.2.2.1.toList) || (!(bt262.2.2.2.1 == bt255.2.2.2.1) || (!(bt262.2.2.2.2.1.toList == bt255.2.2.2.2.1.toList)))))) = true then (laws_FnOpStrict.j0 k t254 bt255.2.2.2.2.2 bt262.2.2.2.2.2 true bt255.1 bt255.2.1 bt255.2.2.1 bt255.2.2.2.1 bt255.2.2.2.2.1 bt262.1 bt262.2.1 bt262.2.2.1 bt262.2.2.2.1 bt262.2.2.2.2.1) else (laws_FnOpStrict.j0 k t254 bt255.2.2.2.2.2 bt262.2.2.2.2.2 (!bt262.2.2.2.2.2) bt255.1 bt255.2.1 bt255.2.2.1 bt255.2.2.2.1 bt255.2.2.2.2.1 bt262.1 bt262.2.1 bt262.2.2.1 bt262.2.2.2.1 bt262.2.2.2.2.1))))))
theorem laws_FnOpStrict.mono_l : ∀ k, (∀ y0 y1 y2 y3 y4 y5 y6 y7 y8 y9 y10 y11 y12 y13, LeO (laws_FnOpStrict.j0 k y0 y1 y2 y3 y4 y5 y6 y7 y8 y9 y10 y11 y12 y13) (laws_FnOpStrict.j0 (k + 1) y0 y1 y2 y3 y4 y5 y6 y7 y8 y9 y10 y11 y12 y13))
 | 0 => fun _ _ _ _ _ _ _ _ _ _ _ _ _ _ r h => by simp [laws_FnOpStrict.j0] at h
 | k + 1 => by
  have ih0 := laws_FnOpStrict.mono_l k
  intro y0 y1 y2 y3 y4 y5 y6 y7 y8 y9 y10 y11 y12 y13
  unfold laws_FnOpStrict.j0
  repeat' first
  | (with_reducible exact ih0 _ _ _ _ _ _ _ _ _ _ _ _ _ _)
  | (with_reducible exact impl_OpOk.mono _ _ _ _ _ _)
  | (with_reducible exact impl_OpRead.mono _ _)
  | (with_reducible exact impl_OpText.mono _ _ _ _ _ _)
  | (with_reducible exact spec_DrawOpRead.mono _ _)
  | (with_reducible exact spec_OpRead.mono _ _)
  | (with_reducible exact LeO.refl _)
  | (with_reducible exact LeO.none _)
  | (with_reducible refine LeO.ite ?_ ?_)
  | (with_reducible refine LeO.bind ?_ (fun _ => ?_))
  | exact ih0 _ _ _ _ _ _ _ _ _ _ _ _ _ _
  | exact impl_OpOk.mono _ _ _ _ _ _
  | exact impl_OpRead.mono _ _
  | exact impl_OpText.mono _ _ _ _ _ _
  | exact spec_DrawOpRead.mono _ _
  | exact spec_OpRead.mono _ _
  | exact LeO.none _
  | refine LeO.ite ?_ ?_
  | refine LeO.bind ?_ (fun _ => ?_)
theorem laws_FnOpStrict.mono : ∀ a0 k, LeO (laws_FnOpStrict.f k a0) (laws_FnOpStrict.f (k + 1) a0) := by
 intro a0 k
 have ih0 := laws_FnOpStrict.mono_l k
 unfold laws_FnOpStrict.f
 repeat' first
  | (with_reducible exact ih0 _ _ _ _ _ _ _ _ _ _ _ _ _ _)
  | (with_reducible exact impl_OpOk.mono _ _ _ _ _ _)
  | (with_reducible exact impl_OpRead.mono _ _)
  | (with_reducible exact impl_OpText.mono _ _ _ _ _ _)
  | (with_reducible exact spec_DrawOpRead.mono _ _)
  | (with_reducible exact spec_OpRead.mono _ _)
  | (with_reducible exact LeO.refl _)
  | (with_reducible exact LeO.none _)
  | (with_reducible refine LeO.ite ?_ ?_)
  | (with_reducible refine LeO.bind ?_ (fun _ => ?_))
  | exact ih0 _ _ _ _ _ _ _ _ _ _ _ _ _ _
  | exact impl_OpOk.mono _ _ _ _ _ _
  | exact impl_OpRead.mono _ _
  | exact impl_OpText.mono _ _ _ _ _ _
  | exact spec_DrawOpRead.mono _ _
  | exact spec_OpRead.mono _ _
  | exact LeO.none _
  | refine LeO.ite ?_ ?_
  | refine LeO.bind ?_ (fun _ => ?_)
set_option maxHeartbeats 8000000 in
set_option maxRecDepth 100000 in
theorem laws_FnOpStrict.calls (k : Nat) (A0 : Option Addr) (c0 : Nat) (l0 : List Int) (r : Bool) (w : World) (hr0 : Kd.C (Kd.int .u8) w A0 l0.length l0) (hc0 : l0.length ≤ c0) (h : laws_FnOpStrict.f k l0 = some r) (hW : ROK w) :
 Calls Tryd.prog 5 #[.slice A0 l0.length c0] w fun e w' => e = .returned (.bool r) ∧ Below w.heap.size w w' := by
 have HW_ := am hW
 clear hW
 have hu24 := Tryd.underlying24
 have HR0 := am hr0
 have HC0 := am hc0
 clear hr0 hc0
 have HB := am (Below.refl w.heap.size w)
 have H : (if (l0.length : Int) > 1048576 then (some true) else ((spec_DrawOpRead.f k l0).bind fun t254 => ((spec_OpRead.f k t254).bind fun bt255 => ((impl_OpRead.f k t254).bind fun bt262 => (if (bt262.2.2.2.2.2 != bt255.2.2.2.2.2) = true then (laws_FnOpStrict.j0 k t254 bt255.2.2.2.2.2 bt262.2.2.2.2.2 true bt255.1 bt255.2.1 bt255.2.2.1 bt255.2.2.2.1 bt255.2.2.2.2.1 bt262.1 bt262.2.1 bt262.2.2.1 bt262.2.2.2.1 bt262.2.2.2.2.1) else (if (!(bt262.1 == bt255.1) || (!(bt262.2.1.toList == bt255.2.1.toList) || (!(bt262.2.2.1.toList == bt255.2.2.1.toList) || (!(bt262.2.2.2.1 == bt255.2.2.2.1) || (!(bt262.2.2.2.2.1.toList == bt255.2.2.2.2.1.toList)))))) = true then (laws_FnOpStrict.j0 k t254 bt255.2.2.2.2.2 bt262.2.2.2.2.2 true bt255.1 bt255.2.1 bt255.2.2.1 bt255.2.2.2.1 bt255.2.2.2.2.1 bt262.1 bt262.2.1 bt262.2.2.1 bt262.2.2.2.1 bt262.2.2.2.2.1) else (laws_FnOpStrict.j0 k t254 bt255.2.2.2.2.2 bt262.2.2.2.2.2 (!bt262.2.2.2.2.2) bt255.1 bt255.2.1 bt255.2.2.1 bt255.2.2.2.1 bt255.2.2.2.2.1 bt262.1 bt262.2.1 bt262.2.2.1 bt262.2.2.2.1 bt262.2.2.2.2.1))))))) = some r := h
 clear h
 by_cases c2 : (l0.length : Int) > 1048576
 · rw [if_pos c2] at H
   have c2b0 : decide (1048576 < (l0.length : Int)) = true := decide_eq_true c2
   have c2b1 : decide (1048576 < l0.length) = true := decide_eq_true (by omega)
   clear c2
   obtain rfl := Option.some.inj H
   go_enter Tryd.func5, Tryd.ntmps5
   go_wp2
   go_ret
   exact ⟨zv, (zb HB)⟩
 rw [if_neg c2] at H
 have c2b0 : decide (1048576 < (l0.length : Int)) = false := decide_eq_false c2
 have c2b1 : decide (1048576 < l0.length) = false := decide_eq_false (by omega)
 clear c2
 replace H := obs H
 obtain ⟨t254, A30, H⟩ := H
 replace H : ((spec_OpRead.f k t254).bind fun bt255 => ((impl_OpRead.f k t254).bind fun bt262 => (if (bt262.2.2.2.2.2 != bt255.2.2.2.2.2) = true then (laws_FnOpStrict.j0 k t254 bt255.2.2.2.2.2 bt262.2.2.2.2.2 true bt255.1 bt255.2.1 bt255.2.2.1 bt255.2.2.2.1 bt255.2.2.2.2.1 bt262.1 bt262.2.1 bt262.2.2.1 bt262.2.2.2.1 bt262.2.2.2.2.1) else (if (!(bt262.1 == bt255.1) || (!(bt262.2.1.toList == bt255.2.1.toList) || (!(bt262.2.2.1.toList == bt255.2.2.1.toList) || (!(bt262.2.2.2.1 == bt255.2.2.2.1) || (!(bt262.2.2.2.2.1.toList == bt255.2.2.2.2.1.toList)))))) = true then (laws_FnOpStrict.j0 k t254 bt255.2.2.2.2.2 bt262.2.2.2.2.2 true bt255.1 bt255.2.1 bt255.2.2.1 bt255.2.2.2.1 bt255.2.2.2.2.1 bt262.1 bt262.2.1 bt262.2.2.1 bt262.2.2.2.1 bt262.2.2.2.2.1) else (laws_FnOpStrict.j0 k t254 bt255.2.2.2.2.2 bt262.2.2.2.2.2 (!bt262.2.2.2.2.2) bt255.1 bt255.2.1 bt255.2.2.1 bt255.2.2.2.1 bt255.2.2.2.2.1 bt262.1 bt262.2.1 bt262.2.2.1 bt262.2.2.2.1 bt262.2.2.2.2.1))))) = some r := H
 have A3 := am A30
 clear A30
 replace H := obs H
 obtain ⟨⟨t255, t256, t257, t258, t259, t260⟩, A40, H⟩ := H
 replace H : ((impl_OpRead.f k t254).bind fun bt262 => (if (bt262.2.2.2.2.2 != t260) = true then (laws_FnOpStrict.j0 k t254 t260 bt262.2.2.2.2.2 true t255 t256 t257 t258 t259 bt262.1 bt262.2.1 bt262.2.2.1 bt262.2.2.2.1 bt262.2.2.2.2.1) else (if (!(bt262.1 == t255) || (!(bt262.2.1.toList == t256.toList) || (!(bt262.2.2.1.toList == t257.toList) || (!(bt262.2.2.2.1 == t258) || (!(bt262.2.2.2.2.1.toList == t259.toList)))))) = true then (laws_FnOpStrict.j0 k t254 t260 bt262.2.2.2.2.2 true t255 t256 t257 t258 t259 bt262.1 bt262.2.1 bt262.2.2.1 bt262.2.2.2.1 bt262.2.2.2.2.1) else (laws_FnOpStrict.j0 k t254 t260 bt262.2.2.2.2.2 (!bt262.2.2.2.2.2) t255 t256 t257 t258 t259 bt262.1 bt262.2.1 bt262.2.2.1 bt262.2.2.2.1 bt262.2.2.2.2.1)))) = some r := H
 have A4 := am A40
 clear A40
 replace H := obs H
 obtain ⟨⟨t262, t263, t264, t265, t266, t267⟩, A50, H⟩ := H
 replace H : (if (t267 != t260) = true then (laws_FnOpStrict.j0 k t254 t260 t267 true t255 t256 t257 t258 t259 t262 t263 t264 t265 t266) else (if (!(t262 == t255) || (!(t263.toList == t256.toList) || (!(t264.toList == t257.toList) || (!(t265 == t258) || (!(t266.toList == t259.toList)))))) = true then (laws_FnOpStrict.j0 k t254 t260 t267 true t255 t256 t257 t258 t259 t262 t263 t264 t265 t266) else (laws_FnOpStrict.j0 k t254 t260 t267 (!t267) t255 t256 t257 t258 t259 t262 t263 t264 t265 t266))) = some r := H
 have A5 := am A50
 clear A50
 have HC6 := am H
 clear H
 go_enter Tryd.func5, Tryd.ntmps5
 go_upto_region 6 with (first | ((with_reducible refine gate_callee (f := 15) rfl ?_); refine goesL_ (some 12) rfl rfl Tryd.func15 (by kernel_rfl) rfl #[.slice A0 l0.length c0] rfl (by (try simp only [List.map_toArray, List.map_cons, List.map_nil]); first | done | rfl | (simp only [List.length_drop, List.length_take]; rfl)) ?_; (with_reducible refine (spec_DrawOpRead.calls k _ _ l0 t254 _ ?side1 ?side2 A3.out).mono ?_); (case side1 => repeat (first | exact HR0.out | (with_reducible refine Kd.C_alloc ?_ _) | (with_reducible refine Kd.C_drewN ?_ _) | (with_reducible refine Kd.C_drew ?_))); (case side2 => exact HC0.out); rintro e w7 ⟨rfl, hb⟩; refine ⟨_, rfl, ?_⟩; replace HB := am (below_step (zb HB) hb); (try clear hb); (try clear hb2); (try clear hk); (try clear hi)) | ((with_reducible refine gate_callee (f := 13) rfl ?_); refine goesL_ (some 15) rfl rfl Tryd.func13 (by kernel_rfl) rfl #[.string t254] rfl (by (try simp only [List.map_toArray, List.map_cons, List.map_nil]); first | done | rfl | (simp only [List.length_drop, List.length_take]; rfl)) ?_; (with_reducible refine (spec_OpRead.calls k t254 t255 t256 t257 t258 t259 t260 _ A4.out).mono ?_); rintro e w8 ⟨rfl, hb⟩; refine ⟨_, rfl, ?_⟩; replace HB := am (below_step (zb HB) hb); (try clear hb); (try clear hb2); (try clear hk); (try clear hi)) | ((with_reducible refine gate_dst (N := 4) rfl ?_); refine bx 24 #[.int .i64 0, .string (⟨#[]⟩ : ByteArray), .string (⟨#[]⟩ : ByteArray), .int .i64 0, .string (⟨#[]⟩ : ByteArray)] ?_; intro gb261 hg w9 hbox hb; have BK261 := am (hbox); have GW261 := am (zn hg (zb HB)); have GE261 := am (zn hg (zb HB)); replace HB := am (below_step (zb HB) hb); clear hb hbox hg; have hcz10_0 := ce0 BK261; have hcz10_1 := ce1 BK261; have hcz10_2 := ce2 BK261; have hcz10_3 := ce3 BK261; have hcz10_4 := ce4 BK261; have hfz10_0 := bfz BK261 0; have hfz10_1 := bfz BK261 1; have hfz10_2 := bfz BK261 2; have hfz10_3 := bfz BK261 3; have hfz10_4 := bfz BK261 4) | ((with_reducible refine gate_callee (f := 12) rfl ?_); refine goesL_ (some 20) rfl rfl Tryd.func12 (by kernel_rfl) rfl #[.string t254] rfl (by (try simp only [List.map_toArray, List.map_cons, List.map_nil]); first | done | rfl | (simp only [List.length_drop, List.length_take]; rfl)) ?_; (with_reducible refine (impl_OpRead.calls k t254 t262 t263 t264 t265 t266 t267 _ A5.out).mono ?_); rintro e w11 ⟨rfl, hb⟩; refine ⟨_, rfl, ?_⟩; replace BK261 := am (blk_below (g := gb261) (o := .cells #[.int .i64 t255, .string t256, .string t257, .int .i64 t258, .string t259] 24 (0, 0)) (zp BK261) hb); replace HB := am (below_step (zb HB) hb); (try clear hb); (try clear hb2); (try clear hk); (try clear hi)) | ((with_reducible refine gate_dst (N := 6) rfl ?_); refine bx 24 #[.int .i64 0, .string (⟨#[]⟩ : ByteArray), .string (⟨#[]⟩ : ByteArray), .int .i64 0, .string (⟨#[]⟩ : ByteArray)] ?_; intro gb268 hg w12 hbox hb; have BK268 := am (hbox); have GW268 := am (zn hg (zb HB)); have GE268 := am (zn hg (zb HB)); replace HB := am (below_step (zb HB) hb); have NB261_268 := am (zx hg (zk BK261)); have NB268_261 := am (zy hg (zk BK261)); replace BK261 := am (blk_below (zk BK261) hb); clear hb hbox hg; have hnb13 := NB268_261.out; have hnc13 := NB261_268.out; have hcz14_0 := ce0 BK268; have hcz14_1 := ce1 BK268; have hcz14_2 := ce2 BK268; have hcz14_3 := ce3 BK268; have hcz14_4 := ce4 BK268; have hfz14_0 := bfz BK268 0; have hfz14_1 := bfz BK268 1; have hfz14_2 := bfz BK268 2; have hfz14_3 := bfz BK268 3; have hfz14_4 := bfz BK268 4))
 (try simp only [Act.put, List.setIfInBounds_toArray, List.set_cons_zero, List.set_cons_succ])
 go_cut [34] (fun v34 wc => ∃ (kq : Nat) (x34_5 : Bool), v34 = .bool x34_5 ∧ Aside0 (laws_FnOpStrict.j0 kq t254 t260 t267 x34_5 t255 t256 t257 t258 t259 t262 t263 t264 t265 t266 = some r) ∧ Aside0 (kq ≤ k) ∧ Aside0 (wc.heap[gb261]? = some (.cells #[.int .i64 t255, .string t256, .string t257, .int .i64 t258, .string t259] 24 (0, 0))) ∧ Aside0 (wc.heap[gb268]? = some (.cells #[.int .i64 t262, .string t263, .string t264, .int .i64 t265, .string t266] 24 (0, 0))) ∧ Aside0 (Below w.heap.size w wc))
 case first =>
  have H := HC6.out
  clear HC6
  by_cases c15 : (t267 != t260) = true
  · rw [if_pos c15] at H
    have c15b0 : (t267 != t260) = true := c15
    (try (have c15b1 : decide (t267 = t260) = false := by simpa using c15))
    (try (have c15b2 : (t267 == t260) = false := by simpa using c15))
    (try (have c15b3 : ¬ (t267 = t260) := by simpa using c15))
    clear c15
    (first | rw [c15b0] | (simp only [i64_w, i32_w]; rw [c15b0]) | skip)
    have H' := am H
    clear H
    go_wp2
    go_meet
    case rel => exact ⟨_, (true), ze, H', ⟨by first | omega | exact Nat.le_refl _⟩, ⟨zk BK261⟩, ⟨zp BK268⟩, ⟨zb HB⟩⟩
  rw [if_neg c15] at H
  have c15b0 : (t267 != t260) = false := by simpa using c15
  (try (have c15b1 : decide (t267 = t260) = true := by simpa using c15))
  (try (have c15b2 : (t267 == t260) = true := by simpa using c15))
  clear c15
  (first | rw [c15b0] | (simp only [i64_w, i32_w]; rw [c15b0]) | skip)
  by_cases c16 : (!(t262 == t255) || (!(t263.toList == t256.toList) || (!(t264.toList == t257.toList) || (!(t265 == t258) || (!(t266.toList == t259.toList)))))) = true
  · rw [if_pos c16] at H
    have c16b0 : (!(t262 == t255) || (!(t263.toList == t256.toList) || (!(t264.toList == t257.toList) || (!(t265 == t258) || (!(t266.toList == t259.toList)))))) = true := c16
    clear c16
    have H' := am H
    clear H
    have hnb17 := NB268_261.out
    have hnc17 := NB261_268.out
    have hcz18_0 := ce0 BK268
    have hcz18_1 := ce1 BK268
    have hcz18_2 := ce2 BK268
    have hcz18_3 := ce3 BK268
    have hcz18_4 := ce4 BK268
    have hfz18_0 := bfz BK268 0
    have hfz18_1 := bfz BK268 1
    have hfz18_2 := bfz BK268 2
    have hfz18_3 := bfz BK268 3
    have hfz18_4 := bfz BK268 4
    have hcz19_0 := ce0 BK261
    have hcz19_1 := ce1 BK261
    have hcz19_2 := ce2 BK261
    have hcz19_3 := ce3 BK261
    have hcz19_4 := ce4 BK261
    have hfz19_0 := bfz BK261 0
    have hfz19_1 := bfz BK261 1
    have hfz19_2 := bfz BK261 2
    have hfz19_3 := bfz BK261 3
    have hfz19_4 := bfz BK261 4
    go_wp2
    go_meet
    case rel => exact ⟨_, (true), ze, H', ⟨by first | omega | exact Nat.le_refl _⟩, ⟨zk BK261⟩, ⟨zp BK268⟩, ⟨zb HB⟩⟩
  rw [if_neg c16] at H
  have c16b0 : (!(t262 == t255) || (!(t263.toList == t256.toList) || (!(t264.toList == t257.toList) || (!(t265 == t258) || (!(t266.toList == t259.toList)))))) = false := by simpa using c16
  clear c16
  have H' := am H
  clear H
  have hnb20 := NB268_261.out
  have hnc20 := NB261_268.out
  have hcz21_0 := ce0 BK268
  have hcz21_1 := ce1 BK268
  have hcz21_2 := ce2 BK268
  have hcz21_3 := ce3 BK268
  have hcz21_4 := ce4 BK268
  have hfz21_0 := bfz BK268 0
  have hfz21_1 := bfz BK268 1
  have hfz21_2 := bfz BK268 2
  have hfz21_3 := bfz BK268 3
  have hfz21_4 := bfz BK268 4
  have hcz22_0 := ce0 BK261
  have hcz22_1 := ce1 BK261
  have hcz22_2 := ce2 BK261
  have hcz22_3 := ce3 BK261
  have hcz22_4 := ce4 BK261
  have hfz22_0 := bfz BK261 0
  have hfz22_1 := bfz BK261 1
  have hfz22_2 := bfz BK261 2
  have hfz22_3 := bfz BK261 3
  have hfz22_4 := bfz BK261 4
  go_wp2
  go_meet
  case rel => exact ⟨_, (!t267), ze, H', ⟨by first | omega | exact Nat.le_refl _⟩, ⟨zk BK261⟩, ⟨zp BK268⟩, ⟨zb HB⟩⟩
 clear HC6
 try clear c1
 try clear c2
 try clear c2b0
 try clear c2b1
 try clear p2
 try clear c5
 try clear c12
 try clear c13
 try clear c15
 try clear c15b0
 try clear c15b1
 try clear c15b2
 try clear c16
 try clear c16b0
 try clear c17
 try clear c20
 try clear hcz10_0
 try clear hcz10_1
 try clear hcz10_2
 try clear hcz10_3
 try clear hcz10_4
 try clear hcz14_0
 try clear hcz14_1
 try clear hcz14_2
 try clear hcz14_3
 try clear hcz14_4
 try clear hcz18_0
 try clear hcz18_1
 try clear hcz18_2
 try clear hcz18_3
 try clear hcz18_4
 try clear hcz19_0
 try clear hcz19_1
 try clear hcz19_2
 try clear hcz19_3
 try clear hcz19_4
 try clear hcz21_0
 try clear hcz21_1
 try clear hcz21_2
 try clear hcz21_3
 try clear hcz21_4
 try clear hcz22_0
 try clear hcz22_1
 try clear hcz22_2
 try clear hcz22_3
 try clear hcz22_4
 try clear hfz10_0
 try clear hfz10_1
 try clear hfz10_2
 try clear hfz10_3
 try clear hfz10_4
 try clear hfz14_0
 try clear hfz14_1
 try clear hfz14_2
 try clear hfz14_3
 try clear hfz14_4
 try clear hfz18_0
 try clear hfz18_1
 try clear hfz18_2
 try clear hfz18_3
 try clear hfz18_4
 try clear hfz19_0
 try clear hfz19_1
 try clear hfz19_2
 try clear hfz19_3
 try clear hfz19_4
 try clear hfz21_0
 try clear hfz21_1
 try clear hfz21_2
 try clear hfz21_3
 try clear hfz21_4
 try clear hfz22_0
 try clear hfz22_1
 try clear hfz22_2
 try clear hfz22_3
 try clear hfz22_4
 obtain ⟨kq, x34_5, rfl, HA, HJ5, BK261, BK268, HB⟩ := hcut
 cases kq with
 | zero => exact absurd HA.out (by simp [laws_FnOpStrict.j0])
 | succ kj5 =>
  have H := HA.out
  clear HA
  simp only [laws_FnOpStrict.j0] at H
  by_cases c23 : x34_5 = true
  · subst c23
    have H1 : (if (t267 == t260) = true then (some (t262 == t255 && (t263.toList == t256.toList && (t264.toList == t257.toList && (t265 == t258 && (t266.toList == t259.toList)))))) else (some false)) = some r := by rw [if_pos rfl] at H; exact H
    clear H
    have H := H1
    clear H1
    by_cases c24 : (t267 == t260) = true
    rotate_left
    · rw [if_neg c24] at H
      have c24b0 : (t267 == t260) = false := by simpa using c24
      (try (have c24b1 : decide (t267 = t260) = false := by simpa using c24))
      (try (have c24b2 : (t267 == t260) = false := by simpa using c24))
      (try (have c24b3 : ¬ (t267 = t260) := by simpa using c24))
      clear c24
      obtain rfl := Option.some.inj H
      go_wp2
      go_ret
      exact ⟨zv, (zb HB)⟩
    rw [if_pos c24] at H
    have c24b0 : (t267 == t260) = true := c24
    (try (have c24b1 : decide (t267 = t260) = true := by simpa using c24))
    (try (have c24b2 : (t267 == t260) = true := by simpa using c24))
    clear c24
    obtain rfl := Option.some.inj H
    have hnb25 := NB268_261.out
    have hnc25 := NB261_268.out
    have hcz26_0 := ce0 BK268
    have hcz26_1 := ce1 BK268
    have hcz26_2 := ce2 BK268
    have hcz26_3 := ce3 BK268
    have hcz26_4 := ce4 BK268
    have hfz26_0 := bfz BK268 0
    have hfz26_1 := bfz BK268 1
    have hfz26_2 := bfz BK268 2
    have hfz26_3 := bfz BK268 3
    have hfz26_4 := bfz BK268 4
    have hcz27_0 := ce0 BK261
    have hcz27_1 := ce1 BK261
    have hcz27_2 := ce2 BK261
    have hcz27_3 := ce3 BK261
    have hcz27_4 := ce4 BK261
    have hfz27_0 := bfz BK261 0
    have hfz27_1 := bfz BK261 1
    have hfz27_2 := bfz BK261 2
    have hfz27_3 := bfz BK261 3
    have hfz27_4 := bfz BK261 4
    go_wp2
    go_ret
    exact ⟨zv, (zb HB)⟩
  replace c23 := Bool.eq_false_iff.mpr c23
  subst c23
  have H1 : ((impl_OpOk.f kj5 t262 t263 t264 t265 t266).bind fun t269 => (if t269 = true then ((impl_OpText.f kj5 t262 t263 t264 t265 t266).bind fun t270 => (some (t270.toList == t254.toList))) else (some false))) = some r := by rw [if_neg (show ¬ (false = true) by decide)] at H; exact H
  clear H
  have H := H1
  clear H1
  replace H := obs H
  obtain ⟨t269, A280, H⟩ := H
  replace H : (if t269 = true then ((impl_OpText.f kj5 t262 t263 t264 t265 t266).bind fun t270 => (some (t270.toList == t254.toList))) else (some false)) = some r := H
  have A28 := am A280
  clear A280
  by_cases c29 : t269 = true
  rotate_left
  · replace c29 := Bool.eq_false_iff.mpr c29
    subst c29
    have H1 : (some false) = some r := by rw [if_neg (show ¬ (false = true) by decide)] at H; exact H
    clear H
    have H := H1
    clear H1
    obtain rfl := Option.some.inj H
    have hnb36 := NB268_261.out
    have hnc36 := NB261_268.out
    have hcz37_0 := ce0 BK268
    have hcz37_1 := ce1 BK268
    have hcz37_2 := ce2 BK268
    have hcz37_3 := ce3 BK268
    have hcz37_4 := ce4 BK268
    have hfz37_0 := bfz BK268 0
    have hfz37_1 := bfz BK268 1
    have hfz37_2 := bfz BK268 2
    have hfz37_3 := bfz BK268 3
    have hfz37_4 := bfz BK268 4
    go_wp2_with (first | ((with_reducible refine gate_callee (f := 16) rfl ?_); refine goesL_ (some 44) rfl rfl Tryd.func16 (by kernel_rfl) rfl #[.agg #[.int .i64 t262, .string t263, .string t264, .int .i64 t265, .string t266]] rfl (by (try simp only [List.map_toArray, List.map_cons, List.map_nil]); first | done | rfl | (simp only [List.length_drop, List.length_take]; rfl)) ?_; (with_reducible refine (impl_OpOk.calls kj5 t262 t263 t264 t265 t266 false _ A28.out).mono ?_); rintro e w38 ⟨rfl, hb⟩; refine ⟨_, rfl, ?_⟩; replace BK261 := am (blk_below (zk BK261) hb); replace BK268 := am (blk_below (zk BK268) hb); replace HB := am (below_step (zb HB) hb); (try clear hb); (try clear hb2); (try clear hk); (try clear hi)))
    go_ret
    exact ⟨zv, (zb HB)⟩
  subst c29
  have H1 : ((impl_OpText.f kj5 t262 t263 t264 t265 t266).bind fun t270 => (some (t270.toList == t254.toList))) = some r := by rw [if_pos rfl] at H; exact H
  clear H
  have H := H1
  clear H1
  replace H := obs H
  obtain ⟨t270, A300, H⟩ := H
  replace H : (some (t270.toList == t254.toList)) = some r := H
  have A30 := am A300
  clear A300
  obtain rfl := Option.some.inj H
  have hnb31 := NB268_261.out
  have hnc31 := NB261_268.out
  have hcz32_0 := ce0 BK268
  have hcz32_1 := ce1 BK268
  have hcz32_2 := ce2 BK268
  have hcz32_3 := ce3 BK268
  have hcz32_4 := ce4 BK268
  have hfz32_0 := bfz BK268 0
  have hfz32_1 := bfz BK268 1
  have hfz32_2 := bfz BK268 2
  have hfz32_3 := bfz BK268 3
  have hfz32_4 := bfz BK268 4
  go_wp2_with (first | ((with_reducible refine gate_callee (f := 16) rfl ?_); refine goesL_ (some 44) rfl rfl Tryd.func16 (by kernel_rfl) rfl #[.agg #[.int .i64 t262, .string t263, .string t264, .int .i64 t265, .string t266]] rfl (by (try simp only [List.map_toArray, List.map_cons, List.map_nil]); first | done | rfl | (simp only [List.length_drop, List.length_take]; rfl)) ?_; (with_reducible refine (impl_OpOk.calls kj5 t262 t263 t264 t265 t266 true _ A28.out).mono ?_); rintro e w33 ⟨rfl, hb⟩; refine ⟨_, rfl, ?_⟩; replace BK261 := am (blk_below (zk BK261) hb); replace BK268 := am (blk_below (zk BK268) hb); replace HB := am (below_step (zb HB) hb); (try clear hb); (try clear hb2); (try clear hk); (try clear hi); have hcz34_0 := ce0 BK268; have hcz34_1 := ce1 BK268; have hcz34_2 := ce2 BK268; have hcz34_3 := ce3 BK268; have hcz34_4 := ce4 BK268; have hfz34_0 := bfz BK268 0; have hfz34_1 := bfz BK268 1; have hfz34_2 := bfz BK268 2; have hfz34_3 := bfz BK268 3; have hfz34_4 := bfz BK268 4) | (go_at_call 10; (with_reducible refine (impl_OpText.calls kj5 t262 t263 t264 t265 t266 t270 _ A30.out).mono ?_); rintro e w35 ⟨rfl, hb⟩; replace BK261 := am (blk_below (zk BK261) hb); replace BK268 := am (blk_below (zk BK268) hb); replace HB := am (below_step (zb HB) hb); (try clear hb); (try clear hb2); (try clear hk); (try clear hi)))
  go_ret
  exact ⟨zv, (zb HB)⟩
/-- THE ONE PURE STATEMENT of laws_FnOpStrict: yours. -/
def laws_FnOpStrict.Pure : Prop := ∀ (l0 : List Int), l0.length ≤ maxLen → l0.length * 1 ≤ 140737488351232 → (∀ x ∈ l0, (Lit.int .u8 x).wf = true) → ∃ k, laws_FnOpStrict.f k l0 = some true
theorem laws_FnOpStrict.walk (P : laws_FnOpStrict.Pure) (a0 : Option Addr) (len0 cap0 : Nat) (z0 : List Int) (w : World) (w0 : (a0 = none ∧ len0 = 0 ∧ cap0 = 0 ∧ z0 = []) ∨ ∃ x, a0 = some x ∧ len0 ≤ cap0 ∧ cap0 ≤ maxLen ∧ z0.length = cap0 ∧ (∀ i, i < z0.length → w.cell? (x.add i) = some (.int .u8 (z0.getD i 0))) ∧ ∀ n ∈ z0, (Lit.int .u8 n).wf = true) (y0 : len0 * 1 ≤ 140737488351232) (hW : ROK w) :
 Calls Tryd.prog 5 #[.slice a0 len0 cap0] w fun e w' => e = .returned (.bool true) ∧ Below w.heap.size w w' := by
 obtain ⟨l0, rfl, hr0, hm0, hw0, hc0⟩ := ReadsInt.ofRowC w0
 obtain ⟨k, h⟩ := P l0 hm0 y0 hw0
 refine (laws_FnOpStrict.calls k _ _ l0 true w (Kd.C_of_reads (d := (0 : Int)) (h1 := fun _ => rfl) hr0) hc0 h hW).mono ?_
 rintro e w' ⟨rfl, hd⟩
 exact ⟨rfl, hd⟩
end Go.Proofs.YtagfiehoodepbaaDoor.PFnOpStrict
