/- The walk: each function that the law comes to as a plain Lean function, and a proof that the Go code answers so. Written by this session's program over the kit's printer. -/
import Derived.Test.YtagfiehoodepbaaDoorZ
import Derived.Test.YtagfiehoodepbaaDoorQFnOpCut0
import Derived.Test.YtagfiehoodepbaaDoorQFnOpCut4
import Derived.Test.YtagfiehoodepbaaDoorQFnOpCut5
namespace Go.Proofs.YtagfiehoodepbaaDoor.PFnOpCut
open Go.RowKit Go.Proofs.YtagfiehoodepbaaDoorW.PrintWords Go.Proofs.YtagfiehoodepbaaDoorW.PrintLast Go.Proofs.YtagfiehoodepbaaDoorW.PrintMore
attribute [local go_sem] max2_int min2_int max_two min_two max_three min_three max_four min_four   -- for this text's walks alone
set_option linter.unusedVariables false
set_option linter.unusedSimpArgs false
/-! ### spec_OpText: function 11 -/
def spec_OpText.f (k : Nat) (a0_0 : Int) (a0_1 : ByteArray) (a0_2 : ByteArray) (a0_3 : Int) (a0_4 : ByteArray) : Option (ByteArray) := (spec_OpOk.f k a0_0 a0_1 a0_2 a0_3 a0_4).bind fun t186 => (if t186 = true then (if a0_0 = 1 then (if 5 + a0_1.size ≤ 9223372036854775807 then (if ((⟨#[109, 97, 107, 101, 32]⟩ : ByteArray) ++ a0_1).size + 1 ≤ 9223372036854775807 then ((spec_l6Dec.f k a0_3).bind fun t187 => (if (((⟨#[109, 97, 107, 101, 32]⟩ : ByteArray) ++ a0_1) ++ (⟨#[32]⟩ : ByteArray)).size + t187.size ≤ 9223372036854775807 then (some ((((⟨#[109, 97, 107, 101, 32]⟩ : ByteArray) ++ a0_1) ++ (⟨#[32]⟩ : ByteArray)) ++ t187)) else (none))) else (none)) else (none)) else (if a0_0 = 2 then (if a0_4.toList = ([] : List UInt8) then (if 5 + a0_1.size ≤ 9223372036854775807 then (if ((⟨#[102, 114, 101, 101, 32]⟩ : ByteArray) ++ a0_1).size + 1 ≤ 9223372036854775807 then ((spec_l6Dec.f k a0_3).bind fun t188 => (if (((⟨#[102, 114, 101, 101, 32]⟩ : ByteArray) ++ a0_1) ++ (⟨#[32]⟩ : ByteArray)).size + t188.size ≤ 9223372036854775807 then (some ((((⟨#[102, 114, 101, 101, 32]⟩ : ByteArray) ++ a0_1) ++ (⟨#[32]⟩ : ByteArray)) ++ t188)) else (none))) else (none)) else (none)) else (if 6 + a0_1.size ≤ 9223372036854775807 then (if ((⟨#[119, 114, 105, 116, 101, 32]⟩ : ByteArray) ++ a0_1).size + 1 ≤ 9223372036854775807 then ((spec_l6Dec.f k a0_3).bind fun t189 => (if (((⟨#[119, 114, 105, 116, 101, 32]⟩ : ByteArray) ++ a0_1) ++ (⟨#[32]⟩ : ByteArray)).size + t189.size ≤ 9223372036854775807 then (if ((((⟨#[119, 114, 105, 116, 101, 32]⟩ : ByteArray) ++ a0_1) ++ (⟨#[32]⟩ : ByteArray)) ++ t189).size + 1 ≤ 9223372036854775807 then (if (((((⟨#[119, 114, 105, 116, 101, 32]⟩ : ByteArray) ++ a0_1) ++ (⟨#[32]⟩ : ByteArray)) ++ t189) ++ (⟨#[32]⟩ : ByteArray)).size + a0_4.size ≤ 9223372036854775807 then (some ((((((⟨#[119, 114, 105, 116, 101, 32]⟩ : ByteArray) ++ a0_1) ++ (⟨#[32]⟩ : ByteArray)) ++ t189) ++ (⟨#[32]⟩ : ByteArray)) ++ a0_4)) else (none)) else (none)) else (none))) else (none)) else (none))) else (if a0_0 = 3 then (if 6 + a0_1.size ≤ 9223372036854775807 then (if ((⟨#[99, 108, 111, 110, 101, 32]⟩ : ByteArray) ++ a0_1).size + 1 ≤ 9223372036854775807 then (if (((⟨#[99, 108, 111, 110, 101, 32]⟩ : ByteArray) ++ a0_1) ++ (⟨#[32]⟩ : ByteArray)).size + a0_2.size ≤ 9223372036854775807 then (some ((((⟨#[99, 108, 111, 110, 101, 32]⟩ : ByteArray) ++ a0_1) ++ (⟨#[32]⟩ : ByteArray)) ++ a0_2)) else (none)) else (none)) else (none)) else (if 5 + a0_1.size ≤ 9223372036854775807 then (some ((⟨#[103, 111, 110, 101, 32]⟩ : ByteArray) ++ a0_1)) else (none))))) else (some (⟨#[]⟩ : ByteArray)))
theorem spec_OpText.mono : ∀ a0 a1 a2 a3 a4 k, LeO (spec_OpText.f k a0 a1 a2 a3 a4) (spec_OpText.f (k + 1) a0 a1 a2 a3 a4) := by
 intro a0 a1 a2 a3 a4 k
 unfold spec_OpText.f
 exact mo2 @spec_OpOk.mono @spec_l6Dec.mono
def spec_OpText.T5 : Bool × List (List Nat × List Nat) := (true, [([], []), ([0], [0]), ([1], [1]), ([2], [2]), ([], []), ([4], [4]), ([5], [5]), ([3, 6], [3, 6]), ([7, 6, 0, 1, 2, 3, 4, 5, 6, 7], [7])])
def spec_OpText.B5 : List Nat := [0, 1, 3, 7, 0, 16, 48, 127, 255]
theorem spec_OpText.tab5 : rtab .any (opsOf Tryd.f11 5) = spec_OpText.T5 := by kernel_rfl
theorem spec_OpText.bits5 : waitsOk spec_OpText.T5.2 spec_OpText.B5 = true := by kernel_rfl
def spec_OpText.T8 : Bool × List (List Nat × List Nat) := (true, [([], []), ([0], [0]), ([1], [1]), ([2], [2]), ([], []), ([4], [4]), ([5], [5]), ([3, 6], [3, 6]), ([7, 6, 0, 1, 2, 3, 4, 5, 6, 7], [7])])
def spec_OpText.B8 : List Nat := [0, 1, 3, 7, 0, 16, 48, 127, 255]
theorem spec_OpText.tab8 : rtab .any (opsOf Tryd.f11 8) = spec_OpText.T8 := by kernel_rfl
theorem spec_OpText.bits8 : waitsOk spec_OpText.T8.2 spec_OpText.B8 = true := by kernel_rfl
def spec_OpText.T9 : Bool × List (List Nat × List Nat) := (true, [([], []), ([0], [0]), ([1], [1]), ([2], [2]), ([], []), ([4], [4]), ([5], [5]), ([3, 6], [3, 6]), ([7], [7]), ([], []), ([9], [9]), ([8, 10], [8, 10]), ([11, 6, 0, 1, 2, 3, 4, 5, 6, 7, 8, 9, 10, 11], [11])])
def spec_OpText.B9 : List Nat := [0, 1, 3, 7, 0, 16, 48, 127, 255, 0, 512, 2047, 4095]
theorem spec_OpText.tab9 : rtab .any (opsOf Tryd.f11 9) = spec_OpText.T9 := by kernel_rfl
theorem spec_OpText.bits9 : waitsOk spec_OpText.T9.2 spec_OpText.B9 = true := by kernel_rfl
set_option maxHeartbeats 8000000 in
set_option maxRecDepth 100000 in
theorem spec_OpText.calls (k : Nat) (a0_0 : Int) (a0_1 : ByteArray) (a0_2 : ByteArray) (a0_3 : Int) (a0_4 : ByteArray) (r : ByteArray) (w : World) (h : spec_OpText.f k a0_0 a0_1 a0_2 a0_3 a0_4 = some r) :
 Calls Tryd.prog 11 #[.agg #[.int .i64 a0_0, .string a0_1, .string a0_2, .int .i64 a0_3, .string a0_4]] w fun e w' => e = .returned (.string r) ∧ Below w.heap.size w w' := by
 have hu24 := Tryd.underlying24
 have HB := am (Below.refl w.heap.size w)
 have H : ((spec_OpOk.f k a0_0 a0_1 a0_2 a0_3 a0_4).bind fun t186 => (if t186 = true then (if a0_0 = 1 then (if 5 + a0_1.size ≤ 9223372036854775807 then (if ((⟨#[109, 97, 107, 101, 32]⟩ : ByteArray) ++ a0_1).size + 1 ≤ 9223372036854775807 then ((spec_l6Dec.f k a0_3).bind fun t187 => (if (((⟨#[109, 97, 107, 101, 32]⟩ : ByteArray) ++ a0_1) ++ (⟨#[32]⟩ : ByteArray)).size + t187.size ≤ 9223372036854775807 then (some ((((⟨#[109, 97, 107, 101, 32]⟩ : ByteArray) ++ a0_1) ++ (⟨#[32]⟩ : ByteArray)) ++ t187)) else (none))) else (none)) else (none)) else (if a0_0 = 2 then (if a0_4.toList = ([] : List UInt8) then (if 5 + a0_1.size ≤ 9223372036854775807 then (if ((⟨#[102, 114, 101, 101, 32]⟩ : ByteArray) ++ a0_1).size + 1 ≤ 9223372036854775807 then ((spec_l6Dec.f k a0_3).bind fun t188 => (if (((⟨#[102, 114, 101, 101, 32]⟩ : ByteArray) ++ a0_1) ++ (⟨#[32]⟩ : ByteArray)).size + t188.size ≤ 9223372036854775807 then (some ((((⟨#[102, 114, 101, 101, 32]⟩ : ByteArray) ++ a0_1) ++ (⟨#[32]⟩ : ByteArray)) ++ t188)) else (none))) else (none)) else (none)) else (if 6 + a0_1.size ≤ 9223372036854775807 then (if ((⟨#[119, 114, 105, 116, 101, 32]⟩ : ByteArray) ++ a0_1).size + 1 ≤ 9223372036854775807 then ((spec_l6Dec.f k a0_3).bind fun t189 => (if (((⟨#[119, 114, 105, 116, 101, 32]⟩ : ByteArray) ++ a0_1) ++ (⟨#[32]⟩ : ByteArray)).size + t189.size ≤ 9223372036854775807 then (if ((((⟨#[119, 114, 105, 116, 101, 32]⟩ : ByteArray) ++ a0_1) ++ (⟨#[32]⟩ : ByteArray)) ++ t189).size + 1 ≤ 9223372036854775807 then (if (((((⟨#[119, 114, 105, 116, 101, 32]⟩ : ByteArray) ++ a0_1) ++ (⟨#[32]⟩ : ByteArray)) ++ t189) ++ (⟨#[32]⟩ : ByteArray)).size + a0_4.size ≤ 9223372036854775807 then (some ((((((⟨#[119, 114, 105, 116, 101, 32]⟩ : ByteArray) ++ a0_1) ++ (⟨#[32]⟩ : ByteArray)) ++ t189) ++ (⟨#[32]⟩ : ByteArray)) ++ a0_4)) else (none)) else (none)) else (none))) else (none)) else (none))) else (if a0_0 = 3 then (if 6 + a0_1.size ≤ 9223372036854775807 then (if ((⟨#[99, 108, 111, 110, 101, 32]⟩ : ByteArray) ++ a0_1).size + 1 ≤ 9223372036854775807 then (if (((⟨#[99, 108, 111, 110, 101, 32]⟩ : ByteArray) ++ a0_1) ++ (⟨#[32]⟩ : ByteArray)).size + a0_2.size ≤ 9223372036854775807 then (some ((((⟨#[99, 108, 111, 110, 101, 32]⟩ : ByteArray) ++ a0_1) ++ (⟨#[32]⟩ : ByteArray)) ++ a0_2)) else (none)) else (none)) else (none)) else (if 5 + a0_1.size ≤ 9223372036854775807 then (some ((⟨#[103, 111, 110, 101, 32]⟩ : ByteArray) ++ a0_1)) else (none))))) else (some (⟨#[]⟩ : ByteArray)))) = some r := h
 clear h
 replace H := obs H
 obtain ⟨t186, A20, H⟩ := H
 replace H : (if t186 = true then (if a0_0 = 1 then (if 5 + a0_1.size ≤ 9223372036854775807 then (if ((⟨#[109, 97, 107, 101, 32]⟩ : ByteArray) ++ a0_1).size + 1 ≤ 9223372036854775807 then ((spec_l6Dec.f k a0_3).bind fun t187 => (if (((⟨#[109, 97, 107, 101, 32]⟩ : ByteArray) ++ a0_1) ++ (⟨#[32]⟩ : ByteArray)).size + t187.size ≤ 9223372036854775807 then (some ((((⟨#[109, 97, 107, 101, 32]⟩ : ByteArray) ++ a0_1) ++ (⟨#[32]⟩ : ByteArray)) ++ t187)) else (none))) else (none)) else (none)) else (if a0_0 = 2 then (if a0_4.toList = ([] : List UInt8) then (if 5 + a0_1.size ≤ 9223372036854775807 then (if ((⟨#[102, 114, 101, 101, 32]⟩ : ByteArray) ++ a0_1).size + 1 ≤ 9223372036854775807 then ((spec_l6Dec.f k a0_3).bind fun t188 => (if (((⟨#[102, 114, 101, 101, 32]⟩ : ByteArray) ++ a0_1) ++ (⟨#[32]⟩ : ByteArray)).size + t188.size ≤ 9223372036854775807 then (some ((((⟨#[102, 114, 101, 101, 32]⟩ : ByteArray) ++ a0_1) ++ (⟨#[32]⟩ : ByteArray)) ++ t188)) else (none))) else (none)) else (none)) else (if 6 + a0_1.size ≤ 9223372036854775807 then (if ((⟨#[119, 114, 105, 116, 101, 32]⟩ : ByteArray) ++ a0_1).size + 1 ≤ 9223372036854775807 then ((spec_l6Dec.f k a0_3).bind fun t189 => (if (((⟨#[119, 114, 105, 116, 101, 32]⟩ : ByteArray) ++ a0_1) ++ (⟨#[32]⟩ : ByteArray)).size + t189.size ≤ 9223372036854775807 then (if ((((⟨#[119, 114, 105, 116, 101, 32]⟩ : ByteArray) ++ a0_1) ++ (⟨#[32]⟩ : ByteArray)) ++ t189).size + 1 ≤ 9223372036854775807 then (if (((((⟨#[119, 114, 105, 116, 101, 32]⟩ : ByteArray) ++ a0_1) ++ (⟨#[32]⟩ : ByteArray)) ++ t189) ++ (⟨#[32]⟩ : ByteArray)).size + a0_4.size ≤ 9223372036854775807 then (some ((((((⟨#[119, 114, 105, 116, 101, 32]⟩ : ByteArray) ++ a0_1) ++ (⟨#[32]⟩ : ByteArray)) ++ t189) ++ (⟨#[32]⟩ : ByteArray)) ++ a0_4)) else (none)) else (none)) else (none))) else (none)) else (none))) else (if a0_0 = 3 then (if 6 + a0_1.size ≤ 9223372036854775807 then (if ((⟨#[99, 108, 111, 110, 101, 32]⟩ : ByteArray) ++ a0_1).size + 1 ≤ 9223372036854775807 then (if (((⟨#[99, 108, 111, 110, 101, 32]⟩ : ByteArray) ++ a0_1) ++ (⟨#[32]⟩ : ByteArray)).size + a0_2.size ≤ 9223372036854775807 then (some ((((⟨#[99, 108, 111, 110, 101, 32]⟩ : ByteArray) ++ a0_1) ++ (⟨#[32]⟩ : ByteArray)) ++ a0_2)) else (none)) else (none)) else (none)) else (if 5 + a0_1.size ≤ 9223372036854775807 then (some ((⟨#[103, 111, 110, 101, 32]⟩ : ByteArray) ++ a0_1)) else (none))))) else (some (⟨#[]⟩ : ByteArray))) = some r := H
 have A2 := am A20
 clear A20
 by_cases c3 : t186 = true
 rotate_left
 · replace c3 := Bool.eq_false_iff.mpr c3
   subst c3
   have H1 : (some (⟨#[]⟩ : ByteArray)) = some r := by rw [if_neg (show ¬ (false = true) by decide)] at H; exact H
   clear H
   have H := H1
   clear H1
   obtain rfl := Option.some.inj H
   go_enter Tryd.func11, Tryd.ntmps11
   go_wp2_with (first | ((with_reducible refine gate_dst (N := 1) rfl ?_); refine bx 24 #[.int .i64 a0_0, .string a0_1, .string a0_2, .int .i64 a0_3, .string a0_4] ?_; intro gb185 hg w52 hbox hb; have BK185 := am (hbox); have GW185 := am (zn hg (zb HB)); have GE185 := am (zn hg (zb HB)); replace HB := am (below_step (zb HB) hb); clear hb hbox hg; have hcz53_0 := ce0 BK185; have hcz53_1 := ce1 BK185; have hcz53_2 := ce2 BK185; have hcz53_3 := ce3 BK185; have hcz53_4 := ce4 BK185; have hfz53_0 := bfz BK185 0; have hfz53_1 := bfz BK185 1; have hfz53_2 := bfz BK185 2; have hfz53_3 := bfz BK185 3; have hfz53_4 := bfz BK185 4) | ((with_reducible refine gate_callee (f := 23) rfl ?_); refine goesL_ (some 4) rfl rfl Tryd.func23 (by kernel_rfl) rfl #[.agg #[.int .i64 a0_0, .string a0_1, .string a0_2, .int .i64 a0_3, .string a0_4]] rfl (by (try simp only [List.map_toArray, List.map_cons, List.map_nil]); first | done | rfl | (simp only [List.length_drop, List.length_take]; rfl)) ?_; (with_reducible refine (spec_OpOk.calls k a0_0 a0_1 a0_2 a0_3 a0_4 false _ A2.out).mono ?_); rintro e w54 ⟨rfl, hb⟩; refine ⟨_, rfl, ?_⟩; replace BK185 := am (blk_below (zk BK185) hb); replace HB := am (below_step (zb HB) hb); (try clear hb); (try clear hb2); (try clear hk); (try clear hi)))
   go_ret
   exact ⟨zv, (zb HB)⟩
 subst c3
 have H1 : (if a0_0 = 1 then (if 5 + a0_1.size ≤ 9223372036854775807 then (if ((⟨#[109, 97, 107, 101, 32]⟩ : ByteArray) ++ a0_1).size + 1 ≤ 9223372036854775807 then ((spec_l6Dec.f k a0_3).bind fun t187 => (if (((⟨#[109, 97, 107, 101, 32]⟩ : ByteArray) ++ a0_1) ++ (⟨#[32]⟩ : ByteArray)).size + t187.size ≤ 9223372036854775807 then (some ((((⟨#[109, 97, 107, 101, 32]⟩ : ByteArray) ++ a0_1) ++ (⟨#[32]⟩ : ByteArray)) ++ t187)) else (none))) else (none)) else (none)) else (if a0_0 = 2 then (if a0_4.toList = ([] : List UInt8) then (if 5 + a0_1.size ≤ 9223372036854775807 then (if ((⟨#[102, 114, 101, 101, 32]⟩ : ByteArray) ++ a0_1).size + 1 ≤ 9223372036854775807 then ((spec_l6Dec.f k a0_3).bind fun t188 => (if (((⟨#[102, 114, 101, 101, 32]⟩ : ByteArray) ++ a0_1) ++ (⟨#[32]⟩ : ByteArray)).size + t188.size ≤ 9223372036854775807 then (some ((((⟨#[102, 114, 101, 101, 32]⟩ : ByteArray) ++ a0_1) ++ (⟨#[32]⟩ : ByteArray)) ++ t188)) else (none))) else (none)) else (none)) else (if 6 + a0_1.size ≤ 9223372036854775807 then (if ((⟨#[119, 114, 105, 116, 101, 32]⟩ : ByteArray) ++ a0_1).size + 1 ≤ 9223372036854775807 then ((spec_l6Dec.f k a0_3).bind fun t189 => (if (((⟨#[119, 114, 105, 116, 101, 32]⟩ : ByteArray) ++ a0_1) ++ (⟨#[32]⟩ : ByteArray)).size + t189.size ≤ 9223372036854775807 then (if ((((⟨#[119, 114, 105, 116, 101, 32]⟩ : ByteArray) ++ a0_1) ++ (⟨#[32]⟩ : ByteArray)) ++ t189).size + 1 ≤ 9223372036854775807 then (if (((((⟨#[119, 114, 105, 116, 101, 32]⟩ : ByteArray) ++ a0_1) ++ (⟨#[32]⟩ : ByteArray)) ++ t189) ++ (⟨#[32]⟩ : ByteArray)).size + a0_4.size ≤ 9223372036854775807 then (some ((((((⟨#[119, 114, 105, 116, 101, 32]⟩ : ByteArray) ++ a0_1) ++ (⟨#[32]⟩ : ByteArray)) ++ t189) ++ (⟨#[32]⟩ : ByteArray)) ++ a0_4)) else (none)) else (none)) else (none))) else (none)) else (none))) else (if a0_0 = 3 then (if 6 + a0_1.size ≤ 9223372036854775807 then (if ((⟨#[99, 108, 111, 110, 101, 32]⟩ : ByteArray) ++ a0_1).size + 1 ≤ 9223372036854775807 then (if (((⟨#[99, 108, 111, 110, 101, 32]⟩ : ByteArray) ++ a0_1) ++ (⟨#[32]⟩ : ByteArray)).size + a0_2.size ≤ 9223372036854775807 then (some ((((⟨#[99, 108, 111, 110, 101, 32]⟩ : ByteArray) ++ a0_1) ++ (⟨#[32]⟩ : ByteArray)) ++ a0_2)) else (none)) else (none)) else (none)) else (if 5 + a0_1.size ≤ 9223372036854775807 then (some ((⟨#[103, 111, 110, 101, 32]⟩ : ByteArray) ++ a0_1)) else (none))))) = some r := by rw [if_pos rfl] at H; exact H
 clear H
 have H := H1
 clear H1
 by_cases c4 : a0_0 = 1
 · rw [if_pos c4] at H
   have c4b0 : (a0_0 == 1) = true := beq_iff_eq.mpr c4
   have c4b1 : (a0_0 != 1) = false := bne_eq_false_iff_eq.mpr c4
   clear c4
   by_cases c5 : 5 + a0_1.size ≤ 9223372036854775807
   rotate_left
   · rw [if_neg c5] at H
     exact absurd H (by simp)
   rw [if_pos c5] at H
   have c5b0 := eq_true c5
   have c5b1 : decide (5 + a0_1.size ≤ 9223372036854775807) = true := decide_eq_true c5
   try have c5b2 : (9223372036854775807 < 5 + a0_1.size) = False := eq_false (Nat.not_lt.2 c5)
   by_cases c6 : ((⟨#[109, 97, 107, 101, 32]⟩ : ByteArray) ++ a0_1).size + 1 ≤ 9223372036854775807
   rotate_left
   · rw [if_neg c6] at H
     exact absurd H (by simp)
   rw [if_pos c6] at H
   have c6b0 := eq_true c6
   have c6b1 : decide (((⟨#[109, 97, 107, 101, 32]⟩ : ByteArray) ++ a0_1).size + 1 ≤ 9223372036854775807) = true := decide_eq_true c6
   try have c6b2 : (9223372036854775807 < ((⟨#[109, 97, 107, 101, 32]⟩ : ByteArray) ++ a0_1).size + 1) = False := eq_false (Nat.not_lt.2 c6)
   (try have c6b3 : (9223372036854775807 < 5 + a0_1.size + 1) = False := eq_false (by have q_ := c6; simp only [ByteArray.size_append] at q_; have : (⟨#[109, 97, 107, 101, 32]⟩ : ByteArray).size = 5 := rfl; omega))
   replace H := obs H
   obtain ⟨t187, A70, H⟩ := H
   replace H : (if (((⟨#[109, 97, 107, 101, 32]⟩ : ByteArray) ++ a0_1) ++ (⟨#[32]⟩ : ByteArray)).size + t187.size ≤ 9223372036854775807 then (some ((((⟨#[109, 97, 107, 101, 32]⟩ : ByteArray) ++ a0_1) ++ (⟨#[32]⟩ : ByteArray)) ++ t187)) else (none)) = some r := H
   have A7 := am A70
   clear A70
   by_cases c8 : (((⟨#[109, 97, 107, 101, 32]⟩ : ByteArray) ++ a0_1) ++ (⟨#[32]⟩ : ByteArray)).size + t187.size ≤ 9223372036854775807
   rotate_left
   · rw [if_neg c8] at H
     exact absurd H (by simp)
   rw [if_pos c8] at H
   have c8b0 := eq_true c8
   have c8b1 : decide ((((⟨#[109, 97, 107, 101, 32]⟩ : ByteArray) ++ a0_1) ++ (⟨#[32]⟩ : ByteArray)).size + t187.size ≤ 9223372036854775807) = true := decide_eq_true c8
   try have c8b2 : (9223372036854775807 < (((⟨#[109, 97, 107, 101, 32]⟩ : ByteArray) ++ a0_1) ++ (⟨#[32]⟩ : ByteArray)).size + t187.size) = False := eq_false (Nat.not_lt.2 c8)
   (try have c8b3 : (9223372036854775807 < 5 + a0_1.size + 1 + t187.size) = False := eq_false (by have q_ := c8; simp only [ByteArray.size_append] at q_; have : (⟨#[109, 97, 107, 101, 32]⟩ : ByteArray).size = 5 := rfl; have : (⟨#[32]⟩ : ByteArray).size = 1 := rfl; omega))
   obtain rfl := Option.some.inj H
   go_enter Tryd.func11, Tryd.ntmps11
   try go_wp2_with (first | ((with_reducible refine gate_dst (N := 1) rfl ?_); refine bx 24 #[.int .i64 a0_0, .string a0_1, .string a0_2, .int .i64 a0_3, .string a0_4] ?_; intro gb185 hg w9 hbox hb; have BK185 := am (hbox); have GW185 := am (zn hg (zb HB)); have GE185 := am (zn hg (zb HB)); replace HB := am (below_step (zb HB) hb); clear hb hbox hg; have hcz10_0 := ce0 BK185; have hcz10_1 := ce1 BK185; have hcz10_2 := ce2 BK185; have hcz10_3 := ce3 BK185; have hcz10_4 := ce4 BK185; have hfz10_0 := bfz BK185 0; have hfz10_1 := bfz BK185 1; have hfz10_2 := bfz BK185 2; have hfz10_3 := bfz BK185 3; have hfz10_4 := bfz BK185 4) | ((with_reducible refine gate_callee (f := 23) rfl ?_); refine goesL_ (some 4) rfl rfl Tryd.func23 (by kernel_rfl) rfl #[.agg #[.int .i64 a0_0, .string a0_1, .string a0_2, .int .i64 a0_3, .string a0_4]] rfl (by (try simp only [List.map_toArray, List.map_cons, List.map_nil]); first | done | rfl | (simp only [List.length_drop, List.length_take]; rfl)) ?_; (with_reducible refine (spec_OpOk.calls k a0_0 a0_1 a0_2 a0_3 a0_4 true _ A2.out).mono ?_); rintro e w11 ⟨rfl, hb⟩; refine ⟨_, rfl, ?_⟩; replace BK185 := am (blk_below (zk BK185) hb); replace HB := am (below_step (zb HB) hb); (try clear hb); (try clear hb2); (try clear hk); (try clear hi); have hcz12_0 := ce0 BK185; have hcz12_1 := ce1 BK185; have hcz12_2 := ce2 BK185; have hcz12_3 := ce3 BK185; have hcz12_4 := ce4 BK185; have hfz12_0 := bfz BK185 0; have hfz12_1 := bfz BK185 1; have hfz12_2 := bfz BK185 2; have hfz12_3 := bfz BK185 3; have hfz12_4 := bfz BK185 4))
   replace BK185 := am (blk_drew BK185.out)
   replace HB := am (below_drew1 HB.out)
   refine start_ (n := 9) (S := fun w' => w'.cell? ⟨gb185, 0, none⟩ = some (.int .i64 a0_0) ∧ w'.cell? ⟨gb185, 1, none⟩ = some (.string a0_1) ∧ w'.cell? ⟨gb185, 2, none⟩ = some (.string a0_2) ∧ w'.cell? ⟨gb185, 3, none⟩ = some (.int .i64 a0_3) ∧ w'.cell? ⟨gb185, 4, none⟩ = some (.string a0_4)) (ds := []) (bs 9 0) (by kernel_rfl) rfl rfl ⟨ce0 BK185, ce1 BK185, ce2 BK185, ce3 BK185, ce4 BK185⟩ (fun hHeld => ?_); refine with_tabW spec_OpText.tab5 spec_OpText.bits5 (fun HT_ HW_ => ?_)
   generalize w11.drew = w13 at BK185 HB hHeld ⊢
   refine pu 0 10 9 1 rfl rfl ?_
   refine pu 4 14 9 17 rfl rfl ?_
   refine ta5 1 11 9 19 rfl rfl hHeld ?_
   refine pu 2 12 9 23 rfl rfl ?_
   refine pu 3 13 9 31 rfl rfl ?_
   refine ta5 5 15 9 63 rfl rfl hHeld ?_
   refine oz 6 9 127 rfl rfl (fun K hK => ?_)
   refine goes_ Tryd.func24 (by kernel_rfl) rfl #[.int .i64 a0_3] (by rfl) rfl rfl (by (try simp only [List.map_toArray, List.map_cons, List.map_nil]); first | done | rfl | (simp only [List.length_drop, List.length_take]; rfl)) ?_
   with_reducible refine (spec_l6Dec.calls k a0_3 t187 _ A7.out).mono ?_
   rintro e w14 ⟨rfl, hb⟩
   refine ⟨_, rfl, ?_⟩
   replace BK185 := am (blk_below (zk BK185) hb)
   replace HB := am (below_step (zb HB) hb)
   (try clear hb)
   (try clear hb2)
   (try clear hk)
   (try clear hi)
   refine hK.out _ _ ⟨ce0 BK185, ce1 BK185, ce2 BK185, ce3 BK185, ce4 BK185⟩ (fun hHeld => ?_)
   clear hK K
   refine norm_ (a' := ?_) ?_ ?_
   rotate_left
   · show Act.put _ (some 16) _ = _
     simp only [Act.put, List.setIfInBounds_toArray, List.set_cons_zero, List.set_cons_succ, i64_w, i32_w]
     rfl
   refine pu 7 17 9 255 rfl rfl ?_
   refine pu 8 2 9 511 rfl rfl ?_
   refine done_ (done_of HT_.out (by kernel_rfl)) ?_
   try go_wp2
   go_ret
   exact ⟨zv, (zb HB)⟩
 rw [if_neg c4] at H
 have c4b0 : (a0_0 == 1) = false := beq_eq_false_iff_ne.mpr c4
 have c4b1 : (a0_0 != 1) = true := bne_iff_ne.mpr c4
 by_cases c15 : a0_0 = 2
 rotate_left
 · rw [if_neg c15] at H
   have c15b0 : (a0_0 == 2) = false := beq_eq_false_iff_ne.mpr c15
   have c15b1 : (a0_0 != 2) = true := bne_iff_ne.mpr c15
   by_cases c39 : a0_0 = 3
   rotate_left
   · rw [if_neg c39] at H
     have c39b0 : (a0_0 == 3) = false := beq_eq_false_iff_ne.mpr c39
     have c39b1 : (a0_0 != 3) = true := bne_iff_ne.mpr c39
     by_cases c47 : 5 + a0_1.size ≤ 9223372036854775807
     rotate_left
     · rw [if_neg c47] at H
       exact absurd H (by simp)
     rw [if_pos c47] at H
     have c47b0 := eq_true c47
     have c47b1 : decide (5 + a0_1.size ≤ 9223372036854775807) = true := decide_eq_true c47
     try have c47b2 : (9223372036854775807 < 5 + a0_1.size) = False := eq_false (Nat.not_lt.2 c47)
     obtain rfl := Option.some.inj H
     go_enter Tryd.func11, Tryd.ntmps11
     go_wp2_with (first | ((with_reducible refine gate_dst (N := 1) rfl ?_); refine bx 24 #[.int .i64 a0_0, .string a0_1, .string a0_2, .int .i64 a0_3, .string a0_4] ?_; intro gb185 hg w48 hbox hb; have BK185 := am (hbox); have GW185 := am (zn hg (zb HB)); have GE185 := am (zn hg (zb HB)); replace HB := am (below_step (zb HB) hb); clear hb hbox hg; have hcz49_0 := ce0 BK185; have hcz49_1 := ce1 BK185; have hcz49_2 := ce2 BK185; have hcz49_3 := ce3 BK185; have hcz49_4 := ce4 BK185; have hfz49_0 := bfz BK185 0; have hfz49_1 := bfz BK185 1; have hfz49_2 := bfz BK185 2; have hfz49_3 := bfz BK185 3; have hfz49_4 := bfz BK185 4) | ((with_reducible refine gate_callee (f := 23) rfl ?_); refine goesL_ (some 4) rfl rfl Tryd.func23 (by kernel_rfl) rfl #[.agg #[.int .i64 a0_0, .string a0_1, .string a0_2, .int .i64 a0_3, .string a0_4]] rfl (by (try simp only [List.map_toArray, List.map_cons, List.map_nil]); first | done | rfl | (simp only [List.length_drop, List.length_take]; rfl)) ?_; (with_reducible refine (spec_OpOk.calls k a0_0 a0_1 a0_2 a0_3 a0_4 true _ A2.out).mono ?_); rintro e w50 ⟨rfl, hb⟩; refine ⟨_, rfl, ?_⟩; replace BK185 := am (blk_below (zk BK185) hb); replace HB := am (below_step (zb HB) hb); (try clear hb); (try clear hb2); (try clear hk); (try clear hi); have hcz51_0 := ce0 BK185; have hcz51_1 := ce1 BK185; have hcz51_2 := ce2 BK185; have hcz51_3 := ce3 BK185; have hcz51_4 := ce4 BK185; have hfz51_0 := bfz BK185 0; have hfz51_1 := bfz BK185 1; have hfz51_2 := bfz BK185 2; have hfz51_3 := bfz BK185 3; have hfz51_4 := bfz BK185 4))
     go_ret
     exact ⟨zv, (zb HB)⟩
   rw [if_pos c39] at H
   have c39b0 : (a0_0 == 3) = true := beq_iff_eq.mpr c39
   have c39b1 : (a0_0 != 3) = false := bne_eq_false_iff_eq.mpr c39
   clear c39
   by_cases c40 : 6 + a0_1.size ≤ 9223372036854775807
   rotate_left
   · rw [if_neg c40] at H
     exact absurd H (by simp)
   rw [if_pos c40] at H
   have c40b0 := eq_true c40
   have c40b1 : decide (6 + a0_1.size ≤ 9223372036854775807) = true := decide_eq_true c40
   try have c40b2 : (9223372036854775807 < 6 + a0_1.size) = False := eq_false (Nat.not_lt.2 c40)
   by_cases c41 : ((⟨#[99, 108, 111, 110, 101, 32]⟩ : ByteArray) ++ a0_1).size + 1 ≤ 9223372036854775807
   rotate_left
   · rw [if_neg c41] at H
     exact absurd H (by simp)
   rw [if_pos c41] at H
   have c41b0 := eq_true c41
   have c41b1 : decide (((⟨#[99, 108, 111, 110, 101, 32]⟩ : ByteArray) ++ a0_1).size + 1 ≤ 9223372036854775807) = true := decide_eq_true c41
   try have c41b2 : (9223372036854775807 < ((⟨#[99, 108, 111, 110, 101, 32]⟩ : ByteArray) ++ a0_1).size + 1) = False := eq_false (Nat.not_lt.2 c41)
   (try have c41b3 : (9223372036854775807 < 6 + a0_1.size + 1) = False := eq_false (by have q_ := c41; simp only [ByteArray.size_append] at q_; have : (⟨#[99, 108, 111, 110, 101, 32]⟩ : ByteArray).size = 6 := rfl; omega))
   by_cases c42 : (((⟨#[99, 108, 111, 110, 101, 32]⟩ : ByteArray) ++ a0_1) ++ (⟨#[32]⟩ : ByteArray)).size + a0_2.size ≤ 9223372036854775807
   rotate_left
   · rw [if_neg c42] at H
     exact absurd H (by simp)
   rw [if_pos c42] at H
   have c42b0 := eq_true c42
   have c42b1 : decide ((((⟨#[99, 108, 111, 110, 101, 32]⟩ : ByteArray) ++ a0_1) ++ (⟨#[32]⟩ : ByteArray)).size + a0_2.size ≤ 9223372036854775807) = true := decide_eq_true c42
   try have c42b2 : (9223372036854775807 < (((⟨#[99, 108, 111, 110, 101, 32]⟩ : ByteArray) ++ a0_1) ++ (⟨#[32]⟩ : ByteArray)).size + a0_2.size) = False := eq_false (Nat.not_lt.2 c42)
   (try have c42b3 : (9223372036854775807 < 6 + a0_1.size + 1 + a0_2.size) = False := eq_false (by have q_ := c42; simp only [ByteArray.size_append] at q_; have : (⟨#[32]⟩ : ByteArray).size = 1 := rfl; have : (⟨#[99, 108, 111, 110, 101, 32]⟩ : ByteArray).size = 6 := rfl; omega))
   obtain rfl := Option.some.inj H
   go_enter Tryd.func11, Tryd.ntmps11
   go_wp2_with (first | ((with_reducible refine gate_dst (N := 1) rfl ?_); refine bx 24 #[.int .i64 a0_0, .string a0_1, .string a0_2, .int .i64 a0_3, .string a0_4] ?_; intro gb185 hg w43 hbox hb; have BK185 := am (hbox); have GW185 := am (zn hg (zb HB)); have GE185 := am (zn hg (zb HB)); replace HB := am (below_step (zb HB) hb); clear hb hbox hg; have hcz44_0 := ce0 BK185; have hcz44_1 := ce1 BK185; have hcz44_2 := ce2 BK185; have hcz44_3 := ce3 BK185; have hcz44_4 := ce4 BK185; have hfz44_0 := bfz BK185 0; have hfz44_1 := bfz BK185 1; have hfz44_2 := bfz BK185 2; have hfz44_3 := bfz BK185 3; have hfz44_4 := bfz BK185 4) | ((with_reducible refine gate_callee (f := 23) rfl ?_); refine goesL_ (some 4) rfl rfl Tryd.func23 (by kernel_rfl) rfl #[.agg #[.int .i64 a0_0, .string a0_1, .string a0_2, .int .i64 a0_3, .string a0_4]] rfl (by (try simp only [List.map_toArray, List.map_cons, List.map_nil]); first | done | rfl | (simp only [List.length_drop, List.length_take]; rfl)) ?_; (with_reducible refine (spec_OpOk.calls k a0_0 a0_1 a0_2 a0_3 a0_4 true _ A2.out).mono ?_); rintro e w45 ⟨rfl, hb⟩; refine ⟨_, rfl, ?_⟩; replace BK185 := am (blk_below (zk BK185) hb); replace HB := am (below_step (zb HB) hb); (try clear hb); (try clear hb2); (try clear hk); (try clear hi); have hcz46_0 := ce0 BK185; have hcz46_1 := ce1 BK185; have hcz46_2 := ce2 BK185; have hcz46_3 := ce3 BK185; have hcz46_4 := ce4 BK185; have hfz46_0 := bfz BK185 0; have hfz46_1 := bfz BK185 1; have hfz46_2 := bfz BK185 2; have hfz46_3 := bfz BK185 3; have hfz46_4 := bfz BK185 4))
   go_ret
   exact ⟨zv, (zb HB)⟩
 rw [if_pos c15] at H
 have c15b0 : (a0_0 == 2) = true := beq_iff_eq.mpr c15
 have c15b1 : (a0_0 != 2) = false := bne_eq_false_iff_eq.mpr c15
 clear c15
 by_cases c16 : a0_4.toList = ([] : List UInt8)
 · rw [if_pos c16] at H
   have c16b0 : (a0_4.toList == ([] : List UInt8)) = true := beq_iff_eq.mpr c16
   have c16b1 : (a0_4.toList != ([] : List UInt8)) = false := bne_eq_false_iff_eq.mpr c16
   clear c16
   by_cases c17 : 5 + a0_1.size ≤ 9223372036854775807
   rotate_left
   · rw [if_neg c17] at H
     exact absurd H (by simp)
   rw [if_pos c17] at H
   have c17b0 := eq_true c17
   have c17b1 : decide (5 + a0_1.size ≤ 9223372036854775807) = true := decide_eq_true c17
   try have c17b2 : (9223372036854775807 < 5 + a0_1.size) = False := eq_false (Nat.not_lt.2 c17)
   by_cases c18 : ((⟨#[102, 114, 101, 101, 32]⟩ : ByteArray) ++ a0_1).size + 1 ≤ 9223372036854775807
   rotate_left
   · rw [if_neg c18] at H
     exact absurd H (by simp)
   rw [if_pos c18] at H
   have c18b0 := eq_true c18
   have c18b1 : decide (((⟨#[102, 114, 101, 101, 32]⟩ : ByteArray) ++ a0_1).size + 1 ≤ 9223372036854775807) = true := decide_eq_true c18
   try have c18b2 : (9223372036854775807 < ((⟨#[102, 114, 101, 101, 32]⟩ : ByteArray) ++ a0_1).size + 1) = False := eq_false (Nat.not_lt.2 c18)
   (try have c18b3 : (9223372036854775807 < 5 + a0_1.size + 1) = False := eq_false (by have q_ := c18; simp only [ByteArray.size_append] at q_; have : (⟨#[102, 114, 101, 101, 32]⟩ : ByteArray).size = 5 := rfl; omega))
   replace H := obs H
   obtain ⟨t188, A190, H⟩ := H
   replace H : (if (((⟨#[102, 114, 101, 101, 32]⟩ : ByteArray) ++ a0_1) ++ (⟨#[32]⟩ : ByteArray)).size + t188.size ≤ 9223372036854775807 then (some ((((⟨#[102, 114, 101, 101, 32]⟩ : ByteArray) ++ a0_1) ++ (⟨#[32]⟩ : ByteArray)) ++ t188)) else (none)) = some r := H
   have A19 := am A190
   clear A190
   by_cases c20 : (((⟨#[102, 114, 101, 101, 32]⟩ : ByteArray) ++ a0_1) ++ (⟨#[32]⟩ : ByteArray)).size + t188.size ≤ 9223372036854775807
   rotate_left
   · rw [if_neg c20] at H
     exact absurd H (by simp)
   rw [if_pos c20] at H
   have c20b0 := eq_true c20
   have c20b1 : decide ((((⟨#[102, 114, 101, 101, 32]⟩ : ByteArray) ++ a0_1) ++ (⟨#[32]⟩ : ByteArray)).size + t188.size ≤ 9223372036854775807) = true := decide_eq_true c20
   try have c20b2 : (9223372036854775807 < (((⟨#[102, 114, 101, 101, 32]⟩ : ByteArray) ++ a0_1) ++ (⟨#[32]⟩ : ByteArray)).size + t188.size) = False := eq_false (Nat.not_lt.2 c20)
   (try have c20b3 : (9223372036854775807 < 5 + a0_1.size + 1 + t188.size) = False := eq_false (by have q_ := c20; simp only [ByteArray.size_append] at q_; have : (⟨#[102, 114, 101, 101, 32]⟩ : ByteArray).size = 5 := rfl; have : (⟨#[32]⟩ : ByteArray).size = 1 := rfl; omega))
   obtain rfl := Option.some.inj H
   go_enter Tryd.func11, Tryd.ntmps11
   try go_wp2_with (first | ((with_reducible refine gate_dst (N := 1) rfl ?_); refine bx 24 #[.int .i64 a0_0, .string a0_1, .string a0_2, .int .i64 a0_3, .string a0_4] ?_; intro gb185 hg w21 hbox hb; have BK185 := am (hbox); have GW185 := am (zn hg (zb HB)); have GE185 := am (zn hg (zb HB)); replace HB := am (below_step (zb HB) hb); clear hb hbox hg; have hcz22_0 := ce0 BK185; have hcz22_1 := ce1 BK185; have hcz22_2 := ce2 BK185; have hcz22_3 := ce3 BK185; have hcz22_4 := ce4 BK185; have hfz22_0 := bfz BK185 0; have hfz22_1 := bfz BK185 1; have hfz22_2 := bfz BK185 2; have hfz22_3 := bfz BK185 3; have hfz22_4 := bfz BK185 4) | ((with_reducible refine gate_callee (f := 23) rfl ?_); refine goesL_ (some 4) rfl rfl Tryd.func23 (by kernel_rfl) rfl #[.agg #[.int .i64 a0_0, .string a0_1, .string a0_2, .int .i64 a0_3, .string a0_4]] rfl (by (try simp only [List.map_toArray, List.map_cons, List.map_nil]); first | done | rfl | (simp only [List.length_drop, List.length_take]; rfl)) ?_; (with_reducible refine (spec_OpOk.calls k a0_0 a0_1 a0_2 a0_3 a0_4 true _ A2.out).mono ?_); rintro e w23 ⟨rfl, hb⟩; refine ⟨_, rfl, ?_⟩; replace BK185 := am (blk_below (zk BK185) hb); replace HB := am (below_step (zb HB) hb); (try clear hb); (try clear hb2); (try clear hk); (try clear hi); have hcz24_0 := ce0 BK185; have hcz24_1 := ce1 BK185; have hcz24_2 := ce2 BK185; have hcz24_3 := ce3 BK185; have hcz24_4 := ce4 BK185; have hfz24_0 := bfz BK185 0; have hfz24_1 := bfz BK185 1; have hfz24_2 := bfz BK185 2; have hfz24_3 := bfz BK185 3; have hfz24_4 := bfz BK185 4))
   replace BK185 := am (blk_drew BK185.out)
   replace HB := am (below_drew1 HB.out)
   refine start_ (n := 9) (S := fun w' => w'.cell? ⟨gb185, 0, none⟩ = some (.int .i64 a0_0) ∧ w'.cell? ⟨gb185, 1, none⟩ = some (.string a0_1) ∧ w'.cell? ⟨gb185, 2, none⟩ = some (.string a0_2) ∧ w'.cell? ⟨gb185, 3, none⟩ = some (.int .i64 a0_3) ∧ w'.cell? ⟨gb185, 4, none⟩ = some (.string a0_4)) (ds := []) (bs 9 0) (by kernel_rfl) rfl rfl ⟨ce0 BK185, ce1 BK185, ce2 BK185, ce3 BK185, ce4 BK185⟩ (fun hHeld => ?_); refine with_tabW spec_OpText.tab8 spec_OpText.bits8 (fun HT_ HW_ => ?_)
   generalize w23.drew = w25 at BK185 HB hHeld ⊢
   refine pu 0 23 9 1 rfl rfl ?_
   refine pu 4 27 9 17 rfl rfl ?_
   refine ta5 1 24 9 19 rfl rfl hHeld ?_
   refine pu 2 25 9 23 rfl rfl ?_
   refine pu 3 26 9 31 rfl rfl ?_
   refine ta5 5 28 9 63 rfl rfl hHeld ?_
   refine oz 6 9 127 rfl rfl (fun K hK => ?_)
   refine goes_ Tryd.func24 (by kernel_rfl) rfl #[.int .i64 a0_3] (by rfl) rfl rfl (by (try simp only [List.map_toArray, List.map_cons, List.map_nil]); first | done | rfl | (simp only [List.length_drop, List.length_take]; rfl)) ?_
   with_reducible refine (spec_l6Dec.calls k a0_3 t188 _ A19.out).mono ?_
   rintro e w26 ⟨rfl, hb⟩
   refine ⟨_, rfl, ?_⟩
   replace BK185 := am (blk_below (zk BK185) hb)
   replace HB := am (below_step (zb HB) hb)
   (try clear hb)
   (try clear hb2)
   (try clear hk)
   (try clear hi)
   refine hK.out _ _ ⟨ce0 BK185, ce1 BK185, ce2 BK185, ce3 BK185, ce4 BK185⟩ (fun hHeld => ?_)
   clear hK K
   refine norm_ (a' := ?_) ?_ ?_
   rotate_left
   · show Act.put _ (some 29) _ = _
     simp only [Act.put, List.setIfInBounds_toArray, List.set_cons_zero, List.set_cons_succ, i64_w, i32_w]
     rfl
   refine pu 7 30 9 255 rfl rfl ?_
   refine pu 8 2 9 511 rfl rfl ?_
   refine done_ (done_of HT_.out (by kernel_rfl)) ?_
   try go_wp2
   go_ret
   exact ⟨zv, (zb HB)⟩
 rw [if_neg c16] at H
 have c16b0 : (a0_4.toList == ([] : List UInt8)) = false := beq_eq_false_iff_ne.mpr c16
 have c16b1 : (a0_4.toList != ([] : List UInt8)) = true := bne_iff_ne.mpr c16
 by_cases c27 : 6 + a0_1.size ≤ 9223372036854775807
 rotate_left
 · rw [if_neg c27] at H
   exact absurd H (by simp)
 rw [if_pos c27] at H
 have c27b0 := eq_true c27
 have c27b1 : decide (6 + a0_1.size ≤ 9223372036854775807) = true := decide_eq_true c27
 try have c27b2 : (9223372036854775807 < 6 + a0_1.size) = False := eq_false (Nat.not_lt.2 c27)
 by_cases c28 : ((⟨#[119, 114, 105, 116, 101, 32]⟩ : ByteArray) ++ a0_1).size + 1 ≤ 9223372036854775807
 rotate_left
 · rw [if_neg c28] at H
   exact absurd H (by simp)
 rw [if_pos c28] at H
 have c28b0 := eq_true c28
 have c28b1 : decide (((⟨#[119, 114, 105, 116, 101, 32]⟩ : ByteArray) ++ a0_1).size + 1 ≤ 9223372036854775807) = true := decide_eq_true c28
 try have c28b2 : (9223372036854775807 < ((⟨#[119, 114, 105, 116, 101, 32]⟩ : ByteArray) ++ a0_1).size + 1) = False := eq_false (Nat.not_lt.2 c28)
 (try have c28b3 : (9223372036854775807 < 6 + a0_1.size + 1) = False := eq_false (by have q_ := c28; simp only [ByteArray.size_append] at q_; have : (⟨#[119, 114, 105, 116, 101, 32]⟩ : ByteArray).size = 6 := rfl; omega))
 replace H := obs H
 obtain ⟨t189, A290, H⟩ := H
 replace H : (if (((⟨#[119, 114, 105, 116, 101, 32]⟩ : ByteArray) ++ a0_1) ++ (⟨#[32]⟩ : ByteArray)).size + t189.size ≤ 9223372036854775807 then (if ((((⟨#[119, 114, 105, 116, 101, 32]⟩ : ByteArray) ++ a0_1) ++ (⟨#[32]⟩ : ByteArray)) ++ t189).size + 1 ≤ 9223372036854775807 then (if (((((⟨#[119, 114, 105, 116, 101, 32]⟩ : ByteArray) ++ a0_1) ++ (⟨#[32]⟩ : ByteArray)) ++ t189) ++ (⟨#[32]⟩ : ByteArray)).size + a0_4.size ≤ 9223372036854775807 then (some ((((((⟨#[119, 114, 105, 116, 101, 32]⟩ : ByteArray) ++ a0_1) ++ (⟨#[32]⟩ : ByteArray)) ++ t189) ++ (⟨#[32]⟩ : ByteArray)) ++ a0_4)) else (none)) else (none)) else (none)) = some r := H
 have A29 := am A290
 clear A290
 by_cases c30 : (((⟨#[119, 114, 105, 116, 101, 32]⟩ : ByteArray) ++ a0_1) ++ (⟨#[32]⟩ : ByteArray)).size + t189.size ≤ 9223372036854775807
 rotate_left
 · rw [if_neg c30] at H
   exact absurd H (by simp)
 rw [if_pos c30] at H
 have c30b0 := eq_true c30
 have c30b1 : decide ((((⟨#[119, 114, 105, 116, 101, 32]⟩ : ByteArray) ++ a0_1) ++ (⟨#[32]⟩ : ByteArray)).size + t189.size ≤ 9223372036854775807) = true := decide_eq_true c30
 try have c30b2 : (9223372036854775807 < (((⟨#[119, 114, 105, 116, 101, 32]⟩ : ByteArray) ++ a0_1) ++ (⟨#[32]⟩ : ByteArray)).size + t189.size) = False := eq_false (Nat.not_lt.2 c30)
 (try have c30b3 : (9223372036854775807 < 6 + a0_1.size + 1 + t189.size) = False := eq_false (by have q_ := c30; simp only [ByteArray.size_append] at q_; have : (⟨#[119, 114, 105, 116, 101, 32]⟩ : ByteArray).size = 6 := rfl; have : (⟨#[32]⟩ : ByteArray).size = 1 := rfl; omega))
 by_cases c31 : ((((⟨#[119, 114, 105, 116, 101, 32]⟩ : ByteArray) ++ a0_1) ++ (⟨#[32]⟩ : ByteArray)) ++ t189).size + 1 ≤ 9223372036854775807
 rotate_left
 · rw [if_neg c31] at H
   exact absurd H (by simp)
 rw [if_pos c31] at H
 have c31b0 := eq_true c31
 have c31b1 : decide (((((⟨#[119, 114, 105, 116, 101, 32]⟩ : ByteArray) ++ a0_1) ++ (⟨#[32]⟩ : ByteArray)) ++ t189).size + 1 ≤ 9223372036854775807) = true := decide_eq_true c31
 try have c31b2 : (9223372036854775807 < ((((⟨#[119, 114, 105, 116, 101, 32]⟩ : ByteArray) ++ a0_1) ++ (⟨#[32]⟩ : ByteArray)) ++ t189).size + 1) = False := eq_false (Nat.not_lt.2 c31)
 (try have c31b3 : (9223372036854775807 < 6 + a0_1.size + 1 + t189.size + 1) = False := eq_false (by have q_ := c31; simp only [ByteArray.size_append] at q_; have : (⟨#[119, 114, 105, 116, 101, 32]⟩ : ByteArray).size = 6 := rfl; have : (⟨#[32]⟩ : ByteArray).size = 1 := rfl; omega))
 by_cases c32 : (((((⟨#[119, 114, 105, 116, 101, 32]⟩ : ByteArray) ++ a0_1) ++ (⟨#[32]⟩ : ByteArray)) ++ t189) ++ (⟨#[32]⟩ : ByteArray)).size + a0_4.size ≤ 9223372036854775807
 rotate_left
 · rw [if_neg c32] at H
   exact absurd H (by simp)
 rw [if_pos c32] at H
 have c32b0 := eq_true c32
 have c32b1 : decide ((((((⟨#[119, 114, 105, 116, 101, 32]⟩ : ByteArray) ++ a0_1) ++ (⟨#[32]⟩ : ByteArray)) ++ t189) ++ (⟨#[32]⟩ : ByteArray)).size + a0_4.size ≤ 9223372036854775807) = true := decide_eq_true c32
 try have c32b2 : (9223372036854775807 < (((((⟨#[119, 114, 105, 116, 101, 32]⟩ : ByteArray) ++ a0_1) ++ (⟨#[32]⟩ : ByteArray)) ++ t189) ++ (⟨#[32]⟩ : ByteArray)).size + a0_4.size) = False := eq_false (Nat.not_lt.2 c32)
 (try have c32b3 : (9223372036854775807 < 6 + a0_1.size + 1 + t189.size + 1 + a0_4.size) = False := eq_false (by have q_ := c32; simp only [ByteArray.size_append] at q_; have : (⟨#[119, 114, 105, 116, 101, 32]⟩ : ByteArray).size = 6 := rfl; have : (⟨#[32]⟩ : ByteArray).size = 1 := rfl; omega))
 obtain rfl := Option.some.inj H
 go_enter Tryd.func11, Tryd.ntmps11
 try go_wp2_with (first | ((with_reducible refine gate_dst (N := 1) rfl ?_); refine bx 24 #[.int .i64 a0_0, .string a0_1, .string a0_2, .int .i64 a0_3, .string a0_4] ?_; intro gb185 hg w33 hbox hb; have BK185 := am (hbox); have GW185 := am (zn hg (zb HB)); have GE185 := am (zn hg (zb HB)); replace HB := am (below_step (zb HB) hb); clear hb hbox hg; have hcz34_0 := ce0 BK185; have hcz34_1 := ce1 BK185; have hcz34_2 := ce2 BK185; have hcz34_3 := ce3 BK185; have hcz34_4 := ce4 BK185; have hfz34_0 := bfz BK185 0; have hfz34_1 := bfz BK185 1; have hfz34_2 := bfz BK185 2; have hfz34_3 := bfz BK185 3; have hfz34_4 := bfz BK185 4) | ((with_reducible refine gate_callee (f := 23) rfl ?_); refine goesL_ (some 4) rfl rfl Tryd.func23 (by kernel_rfl) rfl #[.agg #[.int .i64 a0_0, .string a0_1, .string a0_2, .int .i64 a0_3, .string a0_4]] rfl (by (try simp only [List.map_toArray, List.map_cons, List.map_nil]); first | done | rfl | (simp only [List.length_drop, List.length_take]; rfl)) ?_; (with_reducible refine (spec_OpOk.calls k a0_0 a0_1 a0_2 a0_3 a0_4 true _ A2.out).mono ?_); rintro e w35 ⟨rfl, hb⟩; refine ⟨_, rfl, ?_⟩; replace BK185 := am (blk_below (zk BK185) hb); replace HB := am (below_step (zb HB) hb); (try clear hb); (try clear hb2); (try clear hk); (try clear hi); have hcz36_0 := ce0 BK185; have hcz36_1 := ce1 BK185; have hcz36_2 := ce2 BK185; have hcz36_3 := ce3 BK185; have hcz36_4 := ce4 BK185; have hfz36_0 := bfz BK185 0; have hfz36_1 := bfz BK185 1; have hfz36_2 := bfz BK185 2; have hfz36_3 := bfz BK185 3; have hfz36_4 := bfz BK185 4))
 replace BK185 := am (blk_drew BK185.out)
 replace HB := am (below_drew1 HB.out)
 refine start_ (n := 13) (S := fun w' => w'.cell? ⟨gb185, 0, none⟩ = some (.int .i64 a0_0) ∧ w'.cell? ⟨gb185, 1, none⟩ = some (.string a0_1) ∧ w'.cell? ⟨gb185, 2, none⟩ = some (.string a0_2) ∧ w'.cell? ⟨gb185, 3, none⟩ = some (.int .i64 a0_3) ∧ w'.cell? ⟨gb185, 4, none⟩ = some (.string a0_4)) (ds := []) (bs 13 0) (by kernel_rfl) rfl rfl ⟨ce0 BK185, ce1 BK185, ce2 BK185, ce3 BK185, ce4 BK185⟩ (fun hHeld => ?_); refine with_tabW spec_OpText.tab9 spec_OpText.bits9 (fun HT_ HW_ => ?_)
 generalize w35.drew = w37 at BK185 HB hHeld ⊢
 refine pu 0 31 13 1 rfl rfl ?_
 refine pu 4 35 13 17 rfl rfl ?_
 refine pu 9 40 13 529 rfl rfl ?_
 refine ta5 1 32 13 531 rfl rfl hHeld ?_
 refine pu 2 33 13 535 rfl rfl ?_
 refine pu 3 34 13 543 rfl rfl ?_
 refine ta5 5 36 13 575 rfl rfl hHeld ?_
 refine ta5 10 41 13 1599 rfl rfl hHeld ?_
 refine oz 6 13 1663 rfl rfl (fun K hK => ?_)
 refine goes_ Tryd.func24 (by kernel_rfl) rfl #[.int .i64 a0_3] (by rfl) rfl rfl (by (try simp only [List.map_toArray, List.map_cons, List.map_nil]); first | done | rfl | (simp only [List.length_drop, List.length_take]; rfl)) ?_
 with_reducible refine (spec_l6Dec.calls k a0_3 t189 _ A29.out).mono ?_
 rintro e w38 ⟨rfl, hb⟩
 refine ⟨_, rfl, ?_⟩
 replace BK185 := am (blk_below (zk BK185) hb)
 replace HB := am (below_step (zb HB) hb)
 (try clear hb)
 (try clear hb2)
 (try clear hk)
 (try clear hi)
 refine hK.out _ _ ⟨ce0 BK185, ce1 BK185, ce2 BK185, ce3 BK185, ce4 BK185⟩ (fun hHeld => ?_)
 clear hK K
 refine norm_ (a' := ?_) ?_ ?_
 rotate_left
 · show Act.put _ (some 37) _ = _
   simp only [Act.put, List.setIfInBounds_toArray, List.set_cons_zero, List.set_cons_succ, i64_w, i32_w]
   rfl
 refine pu 7 38 13 1791 rfl rfl ?_
 refine pu 8 39 13 2047 rfl rfl ?_
 refine pu 11 42 13 4095 rfl rfl ?_
 refine pu 12 2 13 8191 rfl rfl ?_
 refine done_ (done_of HT_.out (by kernel_rfl)) ?_
 try go_wp2
 go_ret
 exact ⟨zv, (zb HB)⟩
-- NOT PRINTED: function 56 (utf8_RuneCountInString)
-- NOT PRINTED: function 68 (utf8_decodeRuneInStringSlow)
-- NOT PRINTED: function 57 (utf8_DecodeRuneInString)
-- NOT PRINTED: function 44 (strings_explode)
-- NOT PRINTED: function 77 (bytealg_IndexByteString)
-- NOT PRINTED: function 69 (stringslite_IndexByte)
-- NOT PRINTED: function 70 (bytealg_IndexString)
-- NOT PRINTED: function 71 (bytealg_Cutover)
-- NOT PRINTED: function 78 (bytealg_hashStr_string)
-- NOT PRINTED: function 72 (bytealg_IndexRabinKarp_string)
-- NOT PRINTED: function 59 (stringslite_Index)
-- NOT PRINTED: function 46 (strings_Index)
-- NOT PRINTED: function 58 (bytealg_CountString)
-- NOT PRINTED: function 45 (strings_Count)
-- NOT PRINTED: function 40 (strings_genSplit)
/-! ### strings_Split: function 25 -/
/-- What the library's calls read: two variables, each with a value of its own type. -/
def ROK (w : World) : Prop := (∃ m : Int, w.cell? ⟨3, 0, none⟩ = some (.int .i64 m)) ∧ ∃ (te : TypeId) (pe : Value), w.cell? ⟨0, 0, none⟩ = some (.iface te pe)
theorem ROK.below {w W : World} (h : ROK w) (hb : Below w.heap.size w W) : ROK W := by
 obtain ⟨⟨m, hm⟩, te, pe, he⟩ := h
 exact ⟨⟨m, (hb.cell (World.block_lt_of_cell? w _ hm)).trans hm⟩, te, pe, (hb.cell (World.block_lt_of_cell? w _ he)).trans he⟩
/-- The pieces between the separators. -/
def strings_Split.f (a0 : ByteArray) (a1 : ByteArray) : Option (List ByteArray) := if a0.size < 4294967281 ∧ 1 ≤ a1.size then some (Lib.splitB a1 0 (Lib.countB a0 a1) a0) else none
theorem strings_Split.calls (a0 : ByteArray) (a1 : ByteArray) (r : List ByteArray) (w : World) (h : strings_Split.f a0 a1 = some r) (hW : ROK w := by first | exact HW_.out | exact ROK.below HW_.out HB.out | exact ROK.below HW_.out (zb HB)) :
 Calls Tryd.prog 25 #[.string a0, .string a1] w fun e w' => ∃ v0_ : Value, e = .returned (v0_) ∧ Kd.R Kd.string 9 w' w.heap.size (fun _ => True) v0_ r ∧ Below w.heap.size w w' := by
 unfold strings_Split.f at h
 by_cases c : a0.size < 4294967281 ∧ 1 ≤ a1.size
 rotate_left
 · rw [if_neg c] at h
   cases h
 rw [if_pos c] at h
 obtain rfl := Option.some.inj h
 obtain ⟨⟨m, hm⟩, _⟩ := hW
 have hlen := Lib.splitB_all a1 c.2 0 _ a0 rfl
 have hle := Lib.countB_le a1 c.2 _ a0 (Nat.le_refl _)
 refine (Tryd.strings_Split a0 a1 m w c.1 hm c.2).mono fun e w' ⟨he, hw⟩ => ⟨_, he, ?_, ?_⟩
 · subst hw
   rw [← hlen]
   have ho := World.ownsRow_lit (base := w.heap.size) (e := 9) (size := 1) w ((Lib.splitB a1 0 (Lib.countB a0 a1) a0).map Value.string).toArray (Lib.splitB a1 0 (Lib.countB a0 a1) a0).length (Nat.le_refl _) (by rw [hlen]; unfold maxLen; omega) (by simp)
   rw [List.toList_toArray] at ho
   refine ⟨fun _ _ => trivial, _, ho, ?_⟩
   clear ho hlen hle he
   refine ⟨by show _ = _ * 1; simp, fun j p hj => ?_⟩
   obtain ⟨hlt, e1⟩ := List.getElem?_eq_some_iff.1 hj
   show _ = [Value.string p]
   apply List.ext_getElem?
   intro i
   rw [← e1]
   cases i with
   | zero => simp [Kd.string, Kd.scalar, hlt]
   | succ i => simp [Kd.string, Kd.scalar, hlt]; omega
 subst hw
 exact below_alloc (Below.refl _ _) _
-- NOT PRINTED: function 73 (strconv_lower)
-- NOT PRINTED: function 74 (strconv_underscoreOK)
-- NOT PRINTED: function 60 (strconv_ParseUint)
-- NOT PRINTED: function 47 (strconv_ParseInt)
-- NOT PRINTED: function 41 (strconv_Atoi_41)
-- NOT PRINTED: function 61 (stringslite_Clone)
-- NOT PRINTED: function 48 (strconv_syntaxError)
-- NOT PRINTED: function 49 (strconv_rangeError)
-- NOT PRINTED: function 62 (errors_New)
-- NOT PRINTED: function 50 (strconv_baseError)
-- NOT PRINTED: function 51 (strconv_bitSizeError)
-- NOT PRINTED: function 42 (strconv_toError)
/-! ### strconv_Atoi_26: function 26 -/
/-- The number that a text of at most eighteen bytes spells; 0, if it spells none. -/
def strconv_Atoi_26.f (a0 : ByteArray) : Option (Int × Option Int) := if a0.size ≤ 18 then some ((Lib.atoi a0.data.toList).getD 0, none) else none
theorem strconv_Atoi_26.calls (a0 : ByteArray) (r1 : Int) (r2 : Option Int) (w : World) (h : strconv_Atoi_26.f a0 = some (r1, r2)) (hW : ROK w := by first | exact HW_.out | exact ROK.below HW_.out HB.out | exact ROK.below HW_.out (zb HB)) :
 Calls Tryd.prog 26 #[.string a0] w fun e w' => ∃ ev_ : Value, e = .returned (.tuple #[.int .i64 r1, ev_]) ∧ Below w.heap.size w w' := by
 unfold strconv_Atoi_26.f at h
 by_cases c : a0.size ≤ 18
 rotate_left
 · rw [if_neg c] at h
   cases h
 rw [if_pos c] at h
 obtain ⟨rfl, _⟩ := Prod.mk.inj (Option.some.inj h)
 obtain ⟨_, te, pe, hv⟩ := hW
 cases ha : Lib.atoi a0.data.toList with
 | some n =>
  refine (Tryd.strconv_Atoi a0 n c ha w).mono fun e w' hx => ?_
  obtain ⟨he, t, hw⟩ := hx
  subst hw
  exact ⟨_, he, Lib.bytesWorld_below _ _ _⟩
 | none =>
  refine (Tryd.strconv_Atoi_err a0 c ha (.iface te pe) w hv (.inr ⟨te, pe, rfl⟩)).mono fun e w' hx => ?_
  obtain ⟨N, he, _, _, hb⟩ := hx
  exact ⟨_, he, hb⟩
end Go.Proofs.YtagfiehoodepbaaDoor.PFnOpCut
