/- The walk: each function that the law comes to as a plain Lean function, and a proof that the Go code answers so. Written by this session's program over the kit's printer. -/
import Derived.Test.YtagfiehoodepbaaDoorZ
import Derived.Test.YtagfiehoodepbaaDoorQFnOpStrict0
import Derived.Test.YtagfiehoodepbaaDoorQFnOpStrict4
namespace Go.Proofs.YtagfiehoodepbaaDoor.PFnOpStrict
open Go.RowKit Go.Proofs.YtagfiehoodepbaaDoorW.PrintWords Go.Proofs.YtagfiehoodepbaaDoorW.PrintLast Go.Proofs.YtagfiehoodepbaaDoorW.PrintMore
attribute [local go_sem] max2_int min2_int max_two min_two max_three min_three max_four min_four   -- for this text's walks alone
set_option linter.unusedVariables false
set_option linter.unusedSimpArgs false
/-! ### spec_OpText: function 11 -/
def spec_OpText.f (k : Nat) (a0_0 : Int) (a0_1 : ByteArray) (a0_2 : ByteArray) (a0_3 : Int) (a0_4 : ByteArray) : Option (ByteArray) := (spec_OpOk.f k a0_0 a0_1 a0_2 a0_3 a0_4).bind fun t146 => (if t146 = true then (if a0_0 = 1 then (if 5 + a0_1.size ≤ 9223372036854775807 then (if ((⟨#[109, 97, 107, 101, 32]⟩ : ByteArray) ++ a0_1).size + 1 ≤ 9223372036854775807 then ((spec_l6Dec.f k a0_3).bind fun t147 => (if (((⟨#[109, 97, 107, 101, 32]⟩ : ByteArray) ++ a0_1) ++ (⟨#[32]⟩ : ByteArray)).size + t147.size ≤ 9223372036854775807 then (some ((((⟨#[109, 97, 107, 101, 32]⟩ : ByteArray) ++ a0_1) ++ (⟨#[32]⟩ : ByteArray)) ++ t147)) else (none))) else (none)) else (none)) else (if a0_0 = 2 then (if a0_4.toList = ([] : List UInt8) then (if 5 + a0_1.size ≤ 9223372036854775807 then (if ((⟨#[102, 114, 101, 101, 32]⟩ : ByteArray) ++ a0_1).size + 1 ≤ 9223372036854775807 then ((spec_l6Dec.f k a0_3).bind fun t148 => (if (((⟨#[102, 114, 101, 101, 32]⟩ : ByteArray) ++ a0_1) ++ (⟨#[32]⟩ : ByteArray)).size + t148.size ≤ 9223372036854775807 then (some ((((⟨#[102, 114, 101, 101, 32]⟩ : ByteArray) ++ a0_1) ++ (⟨#[32]⟩ : ByteArray)) ++ t148)) else (none))) else (none)) else (none)) else (if 6 + a0_1.size ≤ 9223372036854775807 then (if ((⟨#[119, 114, 105, 116, 101, 32]⟩ : ByteArray) ++ a0_1).size + 1 ≤ 9223372036854775807 then ((spec_l6Dec.f k a0_3).bind fun t149 => (if (((⟨#[119, 114, 105, 116, 101, 32]⟩ : ByteArray) ++ a0_1) ++ (⟨#[32]⟩ : ByteArray)).size + t149.size ≤ 9223372036854775807 then (if ((((⟨#[119, 114, 105, 116, 101, 32]⟩ : ByteArray) ++ a0_1) ++ (⟨#[32]⟩ : ByteArray)) ++ t149).size + 1 ≤ 9223372036854775807 then (if (((((⟨#[119, 114, 105, 116, 101, 32]⟩ : ByteArray) ++ a0_1) ++ (⟨#[32]⟩ : ByteArray)) ++ t149) ++ (⟨#[32]⟩ : ByteArray)).size + a0_4.size ≤ 9223372036854775807 then (some ((((((⟨#[119, 114, 105, 116, 101, 32]⟩ : ByteArray) ++ a0_1) ++ (⟨#[32]⟩ : ByteArray)) ++ t149) ++ (⟨#[32]⟩ : ByteArray)) ++ a0_4)) else (none)) else (none)) else (none))) else (none)) else (none))) else (if a0_0 = 3 then (if 6 + a0_1.size ≤ 9223372036854775807 then (if ((⟨#[99, 108, 111, 110, 101, 32]⟩ : ByteArray) ++ a0_1).size + 1 ≤ 9223372036854775807 then (if (((⟨#[99, 108, 111, 110, 101, 32]⟩ : ByteArray) ++ a0_1) ++ (⟨#[32]⟩ : ByteArray)).size + a0_2.size ≤ 9223372036854775807 then (some ((((⟨#[99, 108, 111, 110, 101, 32]⟩ : ByteArray) ++ a0_1) ++ (⟨#[32]⟩ : ByteArray)) ++ a0_2)) else (none)) else (none)) else (none)) else (if 5 + a0_1.size ≤ 9223372036854775807 then (some ((⟨#[103, 111, 110, 101, 32]⟩ : ByteArray) ++ a0_1)) else (none))))) else (some (⟨#[]⟩ : ByteArray)))
theorem spec_OpText.mono : ∀ a0 a1 a2 a3 a4 k, LeO (spec_OpText.f k a0 a1 a2 a3 a4) (spec_OpText.f (k + 1) a0 a1 a2 a3 a4) := by
 intro a0 a1 a2 a3 a4 k
 unfold spec_OpText.f
 exact mo2 @spec_OpOk.mono @spec_l6Dec.mono
def spec_OpText.T5 : Bool × List (List Nat × List Nat) := (true, [([], []), ([0], [0]), ([1], [1]), ([2], [2]), ([], []), ([4], [4]), ([5], [5]), ([3, 6], [3, 6]), ([7, 6, 0, 1, 2, 3, 4, 5, 6, 7], [7])])
def spec_OpText.B5 : List Nat := [0, 1, 3, 7, 0, 16, 48, 127, 255]
theorem spec_OpText.tab5 : rtab .any (opsOf Tryd.f11 5) = spec_OpText.T5 := by kernel_rfl
theorem spec_OpText.bits5 : waitsOk spec_OpText.T5.2 spec_OpText.B5 = true := by kernel_rfl
def spec_OpText.T8 : Bool × List (List Nat × List Nat) := (true, [([], []), ([0], [0]), ([1], [1]), ([2], [2]), ([], []), ([4], [4]), ([5], [5]), ([3, 6], [3, 6]), ([7, 6, 0, 1, 2, 3, 4, 5, 6, 7], [7])])
def spec_OpText.B8 : List Nat := [0, 1, 3, 7, 0, 16, 48, 127, 255]
theorem spec_OpText.tab8 : rtab .any (opsOf Tryd.f11 8) = spec_OpText.T8 := by kernel_rfl
theorem spec_OpText.bits8 : waitsOk spec_OpText.T8.2 spec_OpText.B8 = true := by kernel_rfl
def spec_OpText.T9 : Bool × List (List Nat × List Nat) := (true, [([], []), ([0], [0]), ([1], [1]), ([2], [2]), ([], []), ([4], [4]), ([5], [5]), ([3, 6], [3, 6]), ([7], [7]), ([], []), ([9], [9]), ([8, 10], [8, 10]), ([11, 6, 0, 1, 2, 3, 4, 5, 6, 7, 8, 9, 10, 11], [11])])
def spec_OpText.B9 : List Nat := [0, 1, 3, 7, 0, 16, 48, 127, 255, 0, 512, 2047, 4095]
theorem spec_OpText.tab9 : rtab .any (opsOf Tryd.f11 9) = spec_OpText.T9 := by kernel_rfl
theorem spec_OpText.bits9 : waitsOk spec_OpText.T9.2 spec_OpText.B9 = true := by kernel_rfl
set_option maxHeartbeats 8000000 in
set_option maxRecDepth 100000 in
theorem spec_OpText.calls (k : Nat) (a0_0 : Int) (a0_1 : ByteArray) (a0_2 : ByteArray) (a0_3 : Int) (a0_4 : ByteArray) (r : ByteArray) (w : World) (h : spec_OpText.f k a0_0 a0_1 a0_2 a0_3 a0_4 = some r) :
 Calls Tryd.prog 11 #[.agg #[.int .i64 a0_0, .string a0_1, .string a0_2, .int .i64 a0_3, .string a0_4]] w fun e w' => e = .returned (.string r) ∧ Below w.heap.size w w' := by
 have hu24 := Tryd.underlying24
 have HB := am (Below.refl w.heap.size w)
 have H : ((spec_OpOk.f k a0_0 a0_1 a0_2 a0_3 a0_4).bind fun t146 => (if t146 = true then (if a0_0 = 1 then (if 5 + a0_1.size ≤ 9223372036854775807 then (if ((⟨#[109, 97, 107, 101, 32]⟩ : ByteArray) ++ a0_1).size + 1 ≤ 9223372036854775807 then ((spec_l6Dec.f k a0_3).bind fun t147 => (if (((⟨#[109, 97, 107, 101, 32]⟩ : ByteArray) ++ a0_1) ++ (⟨#[32]⟩ : ByteArray)).size + t147.size ≤ 9223372036854775807 then (some ((((⟨#[109, 97, 107, 101, 32]⟩ : ByteArray) ++ a0_1) ++ (⟨#[32]⟩ : ByteArray)) ++ t147)) else (none))) else (none)) else (none)) else (if a0_0 = 2 then (if a0_4.toList = ([] : List UInt8) then (if 5 + a0_1.size ≤ 9223372036854775807 then (if ((⟨#[102, 114, 101, 101, 32]⟩ : ByteArray) ++ a0_1).size + 1 ≤ 9223372036854775807 then ((spec_l6Dec.f k a0_3).bind fun t148 => (if (((⟨#[102, 114, 101, 101, 32]⟩ : ByteArray) ++ a0_1) ++ (⟨#[32]⟩ : ByteArray)).size + t148.size ≤ 9223372036854775807 then (some ((((⟨#[102, 114, 101, 101, 32]⟩ : ByteArray) ++ a0_1) ++ (⟨#[32]⟩ : ByteArray)) ++ t148)) else (none))) else (none)) else (none)) else (if 6 + a0_1.size ≤ 9223372036854775807 then (if ((⟨#[119, 114, 105, 116, 101, 32]⟩ : ByteArray) ++ a0_1).size + 1 ≤ 9223372036854775807 then ((spec_l6Dec.f k a0_3).bind fun t149 => (if (((⟨#[119, 114, 105, 116, 101, 32]⟩ : ByteArray) ++ a0_1) ++ (⟨#[32]⟩ : ByteArray)).size + t149.size ≤ 9223372036854775807 then (if ((((⟨#[119, 114, 105, 116, 101, 32]⟩ : ByteArray) ++ a0_1) ++ (⟨#[32]⟩ : ByteArray)) ++ t149).size + 1 ≤ 9223372036854775807 then (if (((((⟨#[119, 114, 105, 116, 101, 32]⟩ : ByteArray) ++ a0_1) ++ (⟨#[32]⟩ : ByteArray)) ++ t149) ++ (⟨#[32]⟩ : ByteArray)).size + a0_4.size ≤ 9223372036854775807 then (some ((((((⟨#[119, 114, 105, 116, 101, 32]⟩ : ByteArray) ++ a0_1) ++ (⟨#[32]⟩ : ByteArray)) ++ t149) ++ (⟨#[32]⟩ : ByteArray)) ++ a0_4)) else (none)) else (none)) else (none))) else (none)) else (none))) else (if a0_0 = 3 then (if 6 + a0_1.size ≤ 9223372036854775807 then (if ((⟨#[99, 108, 111, 110, 101, 32]⟩ : ByteArray) ++ a0_1).size + 1 ≤ 9223372036854775807 then (if (((⟨#[99, 108, 111, 110, 101, 32]⟩ : ByteArray) ++ a0_1) ++ (⟨#[32]⟩ : ByteArray)).size + a0_2.size ≤ 9223372036854775807 then (some ((((⟨#[99, 108, 111, 110, 101, 32]⟩ : ByteArray) ++ a0_1) ++ (⟨#[32]⟩ : ByteArray)) ++ a0_2)) else (none)) else (none)) else (none)) else (if 5 + a0_1.size ≤ 9223372036854775807 then (some ((⟨#[103, 111, 110, 101, 32]⟩ : ByteArray) ++ a0_1)) else (none))))) else (some (⟨#[]⟩ : ByteArray)))) = some r := h
 clear h
 replace H := obs H
 obtain ⟨t146, A20, H⟩ := H
 replace H : (if t146 = true then (if a0_0 = 1 then (if 5 + a0_1.size ≤ 9223372036854775807 then (if ((⟨#[109, 97, 107, 101, 32]⟩ : ByteArray) ++ a0_1).size + 1 ≤ 9223372036854775807 then ((spec_l6Dec.f k a0_3).bind fun t147 => (if (((⟨#[109, 97, 107, 101, 32]⟩ : ByteArray) ++ a0_1) ++ (⟨#[32]⟩ : ByteArray)).size + t147.size ≤ 9223372036854775807 then (some ((((⟨#[109, 97, 107, 101, 32]⟩ : ByteArray) ++ a0_1) ++ (⟨#[32]⟩ : ByteArray)) ++ t147)) else (none))) else (none)) else (none)) else (if a0_0 = 2 then (if a0_4.toList = ([] : List UInt8) then (if 5 + a0_1.size ≤ 9223372036854775807 then (if ((⟨#[102, 114, 101, 101, 32]⟩ : ByteArray) ++ a0_1).size + 1 ≤ 9223372036854775807 then ((spec_l6Dec.f k a0_3).bind fun t148 => (if (((⟨#[102, 114, 101, 101, 32]⟩ : ByteArray) ++ a0_1) ++ (⟨#[32]⟩ : ByteArray)).size + t148.size ≤ 9223372036854775807 then (some ((((⟨#[102, 114, 101, 101, 32]⟩ : ByteArray) ++ a0_1) ++ (⟨#[32]⟩ : ByteArray)) ++ t148)) else (none))) else (none)) else (none)) else (if 6 + a0_1.size ≤ 9223372036854775807 then (if ((⟨#[119, 114, 105, 116, 101, 32]⟩ : ByteArray) ++ a0_1).size + 1 ≤ 9223372036854775807 then ((spec_l6Dec.f k a0_3).bind fun t149 => (if (((⟨#[119, 114, 105, 116, 101, 32]⟩ : ByteArray) ++ a0_1) ++ (⟨#[32]⟩ : ByteArray)).size + t149.size ≤ 9223372036854775807 then (if ((((⟨#[119, 114, 105, 116, 101, 32]⟩ : ByteArray) ++ a0_1) ++ (⟨#[32]⟩ : ByteArray)) ++ t149).size + 1 ≤ 9223372036854775807 then (if (((((⟨#[119, 114, 105, 116, 101, 32]⟩ : ByteArray) ++ a0_1) ++ (⟨#[32]⟩ : ByteArray)) ++ t149) ++ (⟨#[32]⟩ : ByteArray)).size + a0_4.size ≤ 9223372036854775807 then (some ((((((⟨#[119, 114, 105, 116, 101, 32]⟩ : ByteArray) ++ a0_1) ++ (⟨#[32]⟩ : ByteArray)) ++ t149) ++ (⟨#[32]⟩ : ByteArray)) ++ a0_4)) else (none)) else (none)) else (none))) else (none)) else (none))) else (if a0_0 = 3 then (if 6 + a0_1.size ≤ 9223372036854775807 then (if ((⟨#[99, 108, 111, 110, 101, 32]⟩ : ByteArray) ++ a0_1).size + 1 ≤ 9223372036854775807 then (if (((⟨#[99, 108, 111, 110, 101, 32]⟩ : ByteArray) ++ a0_1) ++ (⟨#[32]⟩ : ByteArray)).size + a0_2.size ≤ 9223372036854775807 then (some ((((⟨#[99, 108, 111, 110, 101, 32]⟩ : ByteArray) ++ a0_1) ++ (⟨#[32]⟩ : ByteArray)) ++ a0_2)) else (none)) else (none)) else (none)) else (if 5 + a0_1.size ≤ 9223372036854775807 then (some ((⟨#[103, 111, 110, 101, 32]⟩ : ByteArray) ++ a0_1)) else (none))))) else (some (⟨#[]⟩ : ByteArray))) = some r := H
 have A2 := am A20
 clear A20
 by_cases c3 : t146 = true
 rotate_left
 · replace c3 := Bool.eq_false_iff.mpr c3
   subst c3
   have H1 : (some (⟨#[]⟩ : ByteArray)) = some r := by rw [if_neg (show ¬ (false = true) by decide)] at H; exact H
   clear H
   have H := H1
   clear H1
   obtain rfl := Option.some.inj H
   go_enter Tryd.func11, Tryd.ntmps11
   go_wp2_with (first | ((with_reducible refine gate_dst (N := 1) rfl ?_); refine bx 24 #[.int .i64 a0_0, .string a0_1, .string a0_2, .int .i64 a0_3, .string a0_4] ?_; intro gb145 hg w52 hbox hb; have BK145 := am (hbox); have GW145 := am (zn hg (zb HB)); have GE145 := am (zn hg (zb HB)); replace HB := am (below_step (zb HB) hb); clear hb hbox hg; have hcz53_0 := ce0 BK145; have hcz53_1 := ce1 BK145; have hcz53_2 := ce2 BK145; have hcz53_3 := ce3 BK145; have hcz53_4 := ce4 BK145; have hfz53_0 := bfz BK145 0; have hfz53_1 := bfz BK145 1; have hfz53_2 := bfz BK145 2; have hfz53_3 := bfz BK145 3; have hfz53_4 := bfz BK145 4) | ((with_reducible refine gate_callee (f := 23) rfl ?_); refine goesL_ (some 4) rfl rfl Tryd.func23 (by kernel_rfl) rfl #[.agg #[.int .i64 a0_0, .string a0_1, .string a0_2, .int .i64 a0_3, .string a0_4]] rfl (by (try simp only [List.map_toArray, List.map_cons, List.map_nil]); first | done | rfl | (simp only [List.length_drop, List.length_take]; rfl)) ?_; (with_reducible refine (spec_OpOk.calls k a0_0 a0_1 a0_2 a0_3 a0_4 false _ A2.out).mono ?_); rintro e w54 ⟨rfl, hb⟩; refine ⟨_, rfl, ?_⟩; replace BK145 := am (blk_below (zk BK145) hb); replace HB := am (below_step (zb HB) hb); (try clear hb); (try clear hb2); (try clear hk); (try clear hi)))
   go_ret
   exact ⟨zv, (zb HB)⟩
 subst c3
 have H1 : (if a0_0 = 1 then (if 5 + a0_1.size ≤ 9223372036854775807 then (if ((⟨#[109, 97, 107, 101, 32]⟩ : ByteArray) ++ a0_1).size + 1 ≤ 9223372036854775807 then ((spec_l6Dec.f k a0_3).bind fun t147 => (if (((⟨#[109, 97, 107, 101, 32]⟩ : ByteArray) ++ a0_1) ++ (⟨#[32]⟩ : ByteArray)).size + t147.size ≤ 9223372036854775807 then (some ((((⟨#[109, 97, 107, 101, 32]⟩ : ByteArray) ++ a0_1) ++ (⟨#[32]⟩ : ByteArray)) ++ t147)) else (none))) else (none)) else (none)) else (if a0_0 = 2 then (if a0_4.toList = ([] : List UInt8) then (if 5 + a0_1.size ≤ 9223372036854775807 then (if ((⟨#[102, 114, 101, 101, 32]⟩ : ByteArray) ++ a0_1).size + 1 ≤ 9223372036854775807 then ((spec_l6Dec.f k a0_3).bind fun t148 => (if (((⟨#[102, 114, 101, 101, 32]⟩ : ByteArray) ++ a0_1) ++ (⟨#[32]⟩ : ByteArray)).size + t148.size ≤ 9223372036854775807 then (some ((((⟨#[102, 114, 101, 101, 32]⟩ : ByteArray) ++ a0_1) ++ (⟨#[32]⟩ : ByteArray)) ++ t148)) else (none))) else (none)) else (none)) else (if 6 + a0_1.size ≤ 9223372036854775807 then (if ((⟨#[119, 114, 105, 116, 101, 32]⟩ : ByteArray) ++ a0_1).size + 1 ≤ 9223372036854775807 then ((spec_l6Dec.f k a0_3).bind fun t149 => (if (((⟨#[119, 114, 105, 116, 101, 32]⟩ : ByteArray) ++ a0_1) ++ (⟨#[32]⟩ : ByteArray)).size + t149.size ≤ 9223372036854775807 then (if ((((⟨#[119, 114, 105, 116, 101, 32]⟩ : ByteArray) ++ a0_1) ++ (⟨#[32]⟩ : ByteArray)) ++ t149).size + 1 ≤ 9223372036854775807 then (if (((((⟨#[119, 114, 105, 116, 101, 32]⟩ : ByteArray) ++ a0_1) ++ (⟨#[32]⟩ : ByteArray)) ++ t149) ++ (⟨#[32]⟩ : ByteArray)).size + a0_4.size ≤ 9223372036854775807 then (some ((((((⟨#[119, 114, 105, 116, 101, 32]⟩ : ByteArray) ++ a0_1) ++ (⟨#[32]⟩ : ByteArray)) ++ t149) ++ (⟨#[32]⟩ : ByteArray)) ++ a0_4)) else (none)) else (none)) else (none))) else (none)) else (none))) else (if a0_0 = 3 then (if 6 + a0_1.size ≤ 9223372036854775807 then (if ((⟨#[99, 108, 111, 110, 101, 32]⟩ : ByteArray) ++ a0_1).size + 1 ≤ 9223372036854775807 then (if (((⟨#[99, 108, 111, 110, 101, 32]⟩ : ByteArray) ++ a0_1) ++ (⟨#[32]⟩ : ByteArray)).size + a0_2.size ≤ 9223372036854775807 then (some ((((⟨#[99, 108, 111, 110, 101, 32]⟩ : ByteArray) ++ a0_1) ++ (⟨#[32]⟩ : ByteArray)) ++ a0_2)) else (none)) else (none)) else (none)) else (if 5 + a0_1.size ≤ 9223372036854775807 then (some ((⟨#[103, 111, 110, 101, 32]⟩ : ByteArray) ++ a0_1)) else (none))))) = some r := by rw [if_pos rfl] at H; exact H
 clear H
 have H := H1
 clear H1
 by_cases c4 : a0_0 = 1
 · rw [if_pos c4] at H
   have c4b0 : (a0_0 == 1) = true := beq_iff_eq.mpr c4
   have c4b1 : (a0_0 != 1) = false := bne_eq_false_iff_eq.mpr c4
   clear c4
   by_cases c5 : 5 + a0_1.size ≤ 9223372036854775807
   rotate_left
   · rw [if_neg c5] at H
     exact absurd H (by simp)
   rw [if_pos c5] at H
   have c5b0 := eq_true c5
   have c5b1 : decide (5 + a0_1.size ≤ 9223372036854775807) = true := decide_eq_true c5
   try have c5b2 : (9223372036854775807 < 5 + a0_1.size) = False := eq_false (Nat.not_lt.2 c5)
   by_cases c6 : ((⟨#[109, 97, 107, 101, 32]⟩ : ByteArray) ++ a0_1).size + 1 ≤ 9223372036854775807
   rotate_left
   · rw [if_neg c6] at H
     exact absurd H (by simp)
   rw [if_pos c6] at H
   have c6b0 := eq_true c6
   have c6b1 : decide (((⟨#[109, 97, 107, 101, 32]⟩ : ByteArray) ++ a0_1).size + 1 ≤ 9223372036854775807) = true := decide_eq_true c6
   try have c6b2 : (9223372036854775807 < ((⟨#[109, 97, 107, 101, 32]⟩ : ByteArray) ++ a0_1).size + 1) = False := eq_false (Nat.not_lt.2 c6)
   (try have c6b3 : (9223372036854775807 < 5 + a0_1.size + 1) = False := eq_false (by have q_ := c6; simp only [ByteArray.size_append] at q_; have : (⟨#[109, 97, 107, 101, 32]⟩ : ByteArray).size = 5 := rfl; omega))
   replace H := obs H
   obtain ⟨t147, A70, H⟩ := H
   replace H : (if (((⟨#[109, 97, 107, 101, 32]⟩ : ByteArray) ++ a0_1) ++ (⟨#[32]⟩ : ByteArray)).size + t147.size ≤ 9223372036854775807 then (some ((((⟨#[109, 97, 107, 101, 32]⟩ : ByteArray) ++ a0_1) ++ (⟨#[32]⟩ : ByteArray)) ++ t147)) else (none)) = some r := H
   have A7 := am A70
   clear A70
   by_cases c8 : (((⟨#[109, 97, 107, 101, 32]⟩ : ByteArray) ++ a0_1) ++ (⟨#[32]⟩ : ByteArray)).size + t147.size ≤ 9223372036854775807
   rotate_left
   · rw [if_neg c8] at H
     exact absurd H (by simp)
   rw [if_pos c8] at H
   have c8b0 := eq_true c8
   have c8b1 : decide ((((⟨#[109, 97, 107, 101, 32]⟩ : ByteArray) ++ a0_1) ++ (⟨#[32]⟩ : ByteArray)).size + t147.size ≤ 9223372036854775807) = true := decide_eq_true c8
   try have c8b2 : (9223372036854775807 < (((⟨#[109, 97, 107, 101, 32]⟩ : ByteArray) ++ a0_1) ++ (⟨#[32]⟩ : ByteArray)).size + t147.size) = False := eq_false (Nat.not_lt.2 c8)
   (try have c8b3 : (9223372036854775807 < 5 + a0_1.size + 1 + t147.size) = False := eq_false (by have q_ := c8; simp only [ByteArray.size_append] at q_; have : (⟨#[109, 97, 107, 101, 32]⟩ : ByteArray).size = 5 := rfl; have : (⟨#[32]⟩ : ByteArray).size = 1 := rfl; omega))
   obtain rfl := Option.some.inj H
   go_enter Tryd.func11, Tryd.ntmps11
   try go_wp2_with (first | ((with_reducible refine gate_dst (N := 1) rfl ?_); refine bx 24 #[.int .i64 a0_0, .string a0_1, .string a0_2, .int .i64 a0_3, .string a0_4] ?_; intro gb145 hg w9 hbox hb; have BK145 := am (hbox); have GW145 := am (zn hg (zb HB)); have GE145 := am (zn hg (zb HB)); replace HB := am (below_step (zb HB) hb); clear hb hbox hg; have hcz10_0 := ce0 BK145; have hcz10_1 := ce1 BK145; have hcz10_2 := ce2 BK145; have hcz10_3 := ce3 BK145; have hcz10_4 := ce4 BK145; have hfz10_0 := bfz BK145 0; have hfz10_1 := bfz BK145 1; have hfz10_2 := bfz BK145 2; have hfz10_3 := bfz BK145 3; have hfz10_4 := bfz BK145 4) | ((with_reducible refine gate_callee (f := 23) rfl ?_); refine goesL_ (some 4) rfl rfl Tryd.func23 (by kernel_rfl) rfl #[.agg #[.int .i64 a0_0, .string a0_1, .string a0_2, .int .i64 a0_3, .string a0_4]] rfl (by (try simp only [List.map_toArray, List.map_cons, List.map_nil]); first | done | rfl | (simp only [List.length_drop, List.length_take]; rfl)) ?_; (with_reducible refine (spec_OpOk.calls k a0_0 a0_1 a0_2 a0_3 a0_4 true _ A2.out).mono ?_); rintro e w11 ⟨rfl, hb⟩; refine ⟨_, rfl, ?_⟩; replace BK145 := am (blk_below (zk BK145) hb); replace HB := am (below_step (zb HB) hb); (try clear hb); (try clear hb2); (try clear hk); (try clear hi); have hcz12_0 := ce0 BK145; have hcz12_1 := ce1 BK145; have hcz12_2 := ce2 BK145; have hcz12_3 := ce3 BK145; have hcz12_4 := ce4 BK145; have hfz12_0 := bfz BK145 0; have hfz12_1 := bfz BK145 1; have hfz12_2 := bfz BK145 2; have hfz12_3 := bfz BK145 3; have hfz12_4 := bfz BK145 4))
   replace BK145 := am (blk_drew BK145.out)
   replace HB := am (below_drew1 HB.out)
   refine start_ (n := 9) (S := fun w' => w'.cell? ⟨gb145, 0, none⟩ = some (.int .i64 a0_0) ∧ w'.cell? ⟨gb145, 1, none⟩ = some (.string a0_1) ∧ w'.cell? ⟨gb145, 2, none⟩ = some (.string a0_2) ∧ w'.cell? ⟨gb145, 3, none⟩ = some (.int .i64 a0_3) ∧ w'.cell? ⟨gb145, 4, none⟩ = some (.string a0_4)) (ds := []) (bs 9 0) (by kernel_rfl) rfl rfl ⟨ce0 BK145, ce1 BK145, ce2 BK145, ce3 BK145, ce4 BK145⟩ (fun hHeld => ?_); refine with_tabW spec_OpText.tab5 spec_OpText.bits5 (fun HT_ HW_ => ?_)
   generalize w11.drew = w13 at BK145 HB hHeld ⊢
   refine pu 0 10 9 1 rfl rfl ?_
   refine pu 4 14 9 17 rfl rfl ?_
   refine ta5 1 11 9 19 rfl rfl hHeld ?_
   refine pu 2 12 9 23 rfl rfl ?_
   refine pu 3 13 9 31 rfl rfl ?_
   refine ta5 5 15 9 63 rfl rfl hHeld ?_
   refine oz 6 9 127 rfl rfl (fun K hK => ?_)
   refine goes_ Tryd.func24 (by kernel_rfl) rfl #[.int .i64 a0_3] (by rfl) rfl rfl (by (try simp only [List.map_toArray, List.map_cons, List.map_nil]); first | done | rfl | (simp only [List.length_drop, List.length_take]; rfl)) ?_
   with_reducible refine (spec_l6Dec.calls k a0_3 t147 _ A7.out).mono ?_
   rintro e w14 ⟨rfl, hb⟩
   refine ⟨_, rfl, ?_⟩
   replace BK145 := am (blk_below (zk BK145) hb)
   replace HB := am (below_step (zb HB) hb)
   (try clear hb)
   (try clear hb2)
   (try clear hk)
   (try clear hi)
   refine hK.out _ _ ⟨ce0 BK145, ce1 BK145, ce2 BK145, ce3 BK145, ce4 BK145⟩ (fun hHeld => ?_)
   clear hK K
   refine norm_ (a' := ?_) ?_ ?_
   rotate_left
   · show Act.put _ (some 16) _ = _
     simp only [Act.put, List.setIfInBounds_toArray, List.set_cons_zero, List.set_cons_succ, i64_w, i32_w]
     rfl
   refine pu 7 17 9 255 rfl rfl ?_
   refine pu 8 2 9 511 rfl rfl ?_
   refine done_ (done_of HT_.out (by kernel_rfl)) ?_
   try go_wp2
   go_ret
   exact ⟨zv, (zb HB)⟩
 rw [if_neg c4] at H
 have c4b0 : (a0_0 == 1) = false := beq_eq_false_iff_ne.mpr c4
 have c4b1 : (a0_0 != 1) = true := bne_iff_ne.mpr c4
 by_cases c15 : a0_0 = 2
 rotate_left
 · rw [if_neg c15] at H
   have c15b0 : (a0_0 == 2) = false := beq_eq_false_iff_ne.mpr c15
   have c15b1 : (a0_0 != 2) = true := bne_iff_ne.mpr c15
   by_cases c39 : a0_0 = 3
   rotate_left
   · rw [if_neg c39] at H
     have c39b0 : (a0_0 == 3) = false := beq_eq_false_iff_ne.mpr c39
     have c39b1 : (a0_0 != 3) = true := bne_iff_ne.mpr c39
     by_cases c47 : 5 + a0_1.size ≤ 9223372036854775807
     rotate_left
     · rw [if_neg c47] at H
       exact absurd H (by simp)
     rw [if_pos c47] at H
     have c47b0 := eq_true c47
     have c47b1 : decide (5 + a0_1.size ≤ 9223372036854775807) = true := decide_eq_true c47
     try have c47b2 : (9223372036854775807 < 5 + a0_1.size) = False := eq_false (Nat.not_lt.2 c47)
     obtain rfl := Option.some.inj H
     go_enter Tryd.func11, Tryd.ntmps11
     go_wp2_with (first | ((with_reducible refine gate_dst (N := 1) rfl ?_); refine bx 24 #[.int .i64 a0_0, .string a0_1, .string a0_2, .int .i64 a0_3, .string a0_4] ?_; intro gb145 hg w48 hbox hb; have BK145 := am (hbox); have GW145 := am (zn hg (zb HB)); have GE145 := am (zn hg (zb HB)); replace HB := am (below_step (zb HB) hb); clear hb hbox hg; have hcz49_0 := ce0 BK145; have hcz49_1 := ce1 BK145; have hcz49_2 := ce2 BK145; have hcz49_3 := ce3 BK145; have hcz49_4 := ce4 BK145; have hfz49_0 := bfz BK145 0; have hfz49_1 := bfz BK145 1; have hfz49_2 := bfz BK145 2; have hfz49_3 := bfz BK145 3; have hfz49_4 := bfz BK145 4) | ((with_reducible refine gate_callee (f := 23) rfl ?_); refine goesL_ (some 4) rfl rfl Tryd.func23 (by kernel_rfl) rfl #[.agg #[.int .i64 a0_0, .string a0_1, .string a0_2, .int .i64 a0_3, .string a0_4]] rfl (by (try simp only [List.map_toArray, List.map_cons, List.map_nil]); first | done | rfl | (simp only [List.length_drop, List.length_take]; rfl)) ?_; (with_reducible refine (spec_OpOk.calls k a0_0 a0_1 a0_2 a0_3 a0_4 true _ A2.out).mono ?_); rintro e w50 ⟨rfl, hb⟩; refine ⟨_, rfl, ?_⟩; replace BK145 := am (blk_below (zk BK145) hb); replace HB := am (below_step (zb HB) hb); (try clear hb); (try clear hb2); (try clear hk); (try clear hi); have hcz51_0 := ce0 BK145; have hcz51_1 := ce1 BK145; have hcz51_2 := ce2 BK145; have hcz51_3 := ce3 BK145; have hcz51_4 := ce4 BK145; have hfz51_0 := bfz BK145 0; have hfz51_1 := bfz BK145 1; have hfz51_2 := bfz BK145 2; have hfz51_3 := bfz BK145 3; have hfz51_4 := bfz BK145 4))
     go_ret
     exact ⟨zv, (zb HB)⟩
   rw [if_pos c39] at H
   have c39b0 : (a0_0 == 3) = true := beq_iff_eq.mpr c39
   have c39b1 : (a0_0 != 3) = false := bne_eq_false_iff_eq.mpr c39
   clear c39
   by_cases c40 : 6 + a0_1.size ≤ 9223372036854775807
   rotate_left
   · rw [if_neg c40] at H
     exact absurd H (by simp)
   rw [if_pos c40] at H
   have c40b0 := eq_true c40
   have c40b1 : decide (6 + a0_1.size ≤ 9223372036854775807) = true := decide_eq_true c40
   try have c40b2 : (9223372036854775807 < 6 + a0_1.size) = False := eq_false (Nat.not_lt.2 c40)
   by_cases c41 : ((⟨#[99, 108, 111, 110, 101, 32]⟩ : ByteArray) ++ a0_1).size + 1 ≤ 9223372036854775807
   rotate_left
   · rw [if_neg c41] at H
     exact absurd H (by simp)
   rw [if_pos c41] at H
   have c41b0 := eq_true c41
   have c41b1 : decide (((⟨#[99, 108, 111, 110, 101, 32]⟩ : ByteArray) ++ a0_1).size + 1 ≤ 9223372036854775807) = true := decide_eq_true c41
   try have c41b2 : (9223372036854775807 < ((⟨#[99, 108, 111, 110, 101, 32]⟩ : ByteArray) ++ a0_1).size + 1) = False := eq_false (Nat.not_lt.2 c41)
   (try have c41b3 : (9223372036854775807 < 6 + a0_1.size + 1) = False := eq_false (by have q_ := c41; simp only [ByteArray.size_append] at q_; have : (⟨#[99, 108, 111, 110, 101, 32]⟩ : ByteArray).size = 6 := rfl; omega))
   by_cases c42 : (((⟨#[99, 108, 111, 110, 101, 32]⟩ : ByteArray) ++ a0_1) ++ (⟨#[32]⟩ : ByteArray)).size + a0_2.size ≤ 9223372036854775807
   rotate_left
   · rw [if_neg c42] at H
     exact absurd H (by simp)
   rw [if_pos c42] at H
   have c42b0 := eq_true c42
   have c42b1 : decide ((((⟨#[99, 108, 111, 110, 101, 32]⟩ : ByteArray) ++ a0_1) ++ (⟨#[32]⟩ : ByteArray)).size + a0_2.size ≤ 9223372036854775807) = true := decide_eq_true c42
   try have c42b2 : (9223372036854775807 < (((⟨#[99, 108, 111, 110, 101, 32]⟩ : ByteArray) ++ a0_1) ++ (⟨#[32]⟩ : ByteArray)).size + a0_2.size) = False := eq_false (Nat.not_lt.2 c42)
   (try have c42b3 : (9223372036854775807 < 6 + a0_1.size + 1 + a0_2.size) = False := eq_false (by have q_ := c42; simp only [ByteArray.size_append] at q_; have : (⟨#[32]⟩ : ByteArray).size = 1 := rfl; have : (⟨#[99, 108, 111, 110, 101, 32]⟩ : ByteArray).size = 6 := rfl; omega))
   obtain rfl := Option.some.inj H
   go_enter Tryd.func11, Tryd.ntmps11
   go_wp2_with (first | ((with_reducible refine gate_dst (N := 1) rfl ?_); refine bx 24 #[.int .i64 a0_0, .string a0_1, .string a0_2, .int .i64 a0_3, .string a0_4] ?_; intro gb145 hg w43 hbox hb; have BK145 := am (hbox); have GW145 := am (zn hg (zb HB)); have GE145 := am (zn hg (zb HB)); replace HB := am (below_step (zb HB) hb); clear hb hbox hg; have hcz44_0 := ce0 BK145; have hcz44_1 := ce1 BK145; have hcz44_2 := ce2 BK145; have hcz44_3 := ce3 BK145; have hcz44_4 := ce4 BK145; have hfz44_0 := bfz BK145 0; have hfz44_1 := bfz BK145 1; have hfz44_2 := bfz BK145 2; have hfz44_3 := bfz BK145 3; have hfz44_4 := bfz BK145 4) | ((with_reducible refine gate_callee (f := 23) rfl ?_); refine goesL_ (some 4) rfl rfl Tryd.func23 (by kernel_rfl) rfl #[.agg #[.int .i64 a0_0, .string a0_1, .string a0_2, .int .i64 a0_3, .string a0_4]] rfl (by (try simp only [List.map_toArray, List.map_cons, List.map_nil]); first | done | rfl | (simp only [List.length_drop, List.length_take]; rfl)) ?_; (with_reducible refine (spec_OpOk.calls k a0_0 a0_1 a0_2 a0_3 a0_4 true _ A2.out).mono ?_); rintro e w45 ⟨rfl, hb⟩; refine ⟨_, rfl, ?_⟩; replace BK145 := am (blk_below (zk BK145) hb); replace HB := am (below_step (zb HB) hb); (try clear hb); (try clear hb2); (try clear hk); (try clear hi); have hcz46_0 := ce0 BK145; have hcz46_1 := ce1 BK145; have hcz46_2 := ce2 BK145; have hcz46_3 := ce3 BK145; have hcz46_4 := ce4 BK145; have hfz46_0 := bfz BK145 0; have hfz46_1 := bfz BK145 1; have hfz46_2 := bfz BK145 2; have hfz46_3 := bfz BK145 3; have hfz46_4 := bfz BK145 4))
   go_ret
   exact ⟨zv, (zb HB)⟩
 rw [if_pos c15] at H
 have c15b0 : (a0_0 == 2) = true := beq_iff_eq.mpr c15
 have c15b1 : (a0_0 != 2) = false := bne_eq_false_iff_eq.mpr c15
 clear c15
 by_cases c16 : a0_4.toList = ([] : List UInt8)
 · rw [if_pos c16] at H
   have c16b0 : (a0_4.toList == ([] : List UInt8)) = true := beq_iff_eq.mpr c16
   have c16b1 : (a0_4.toList != ([] : List UInt8)) = false := bne_eq_false_iff_eq.mpr c16
   clear c16
   by_cases c17 : 5 + a0_1.size ≤ 9223372036854775807
   rotate_left
   · rw [if_neg c17] at H
     exact absurd H (by simp)
   rw [if_pos c17] at H
   have c17b0 := eq_true c17
   have c17b1 : decide (5 + a0_1.size ≤ 9223372036854775807) = true := decide_eq_true c17
   try have c17b2 : (9223372036854775807 < 5 + a0_1.size) = False := eq_false (Nat.not_lt.2 c17)
   by_cases c18 : ((⟨#[102, 114, 101, 101, 32]⟩ : ByteArray) ++ a0_1).size + 1 ≤ 9223372036854775807
   rotate_left
   · rw [if_neg c18] at H
     exact absurd H (by simp)
   rw [if_pos c18] at H
   have c18b0 := eq_true c18
   have c18b1 : decide (((⟨#[102, 114, 101, 101, 32]⟩ : ByteArray) ++ a0_1).size + 1 ≤ 9223372036854775807) = true := decide_eq_true c18
   try have c18b2 : (9223372036854775807 < ((⟨#[102, 114, 101, 101, 32]⟩ : ByteArray) ++ a0_1).size + 1) = False := eq_false (Nat.not_lt.2 c18)
   (try have c18b3 : (9223372036854775807 < 5 + a0_1.size + 1) = False := eq_false (by have q_ := c18; simp only [ByteArray.size_append] at q_; have : (⟨#[102, 114, 101, 101, 32]⟩ : ByteArray).size = 5 := rfl; omega))
   replace H := obs H
   obtain ⟨t148, A190, H⟩ := H
   replace H : (if (((⟨#[102, 114, 101, 101, 32]⟩ : ByteArray) ++ a0_1) ++ (⟨#[32]⟩ : ByteArray)).size + t148.size ≤ 9223372036854775807 then (some ((((⟨#[102, 114, 101, 101, 32]⟩ : ByteArray) ++ a0_1) ++ (⟨#[32]⟩ : ByteArray)) ++ t148)) else (none)) = some r := H
   have A19 := am A190
   clear A190
   by_cases c20 : (((⟨#[102, 114, 101, 101, 32]⟩ : ByteArray) ++ a0_1) ++ (⟨#[32]⟩ : ByteArray)).size + t148.size ≤ 9223372036854775807
   rotate_left
   · rw [if_neg c20] at H
     exact absurd H (by simp)
   rw [if_pos c20] at H
   have c20b0 := eq_true c20
   have c20b1 : decide ((((⟨#[102, 114, 101, 101, 32]⟩ : ByteArray) ++ a0_1) ++ (⟨#[32]⟩ : ByteArray)).size + t148.size ≤ 9223372036854775807) = true := decide_eq_true c20
   try have c20b2 : (9223372036854775807 < (((⟨#[102, 114, 101, 101, 32]⟩ : ByteArray) ++ a0_1) ++ (⟨#[32]⟩ : ByteArray)).size + t148.size) = False := eq_false (Nat.not_lt.2 c20)
   (try have c20b3 : (9223372036854775807 < 5 + a0_1.size + 1 + t148.size) = False := eq_false (by have q_ := c20; simp only [ByteArray.size_append] at q_; have : (⟨#[102, 114, 101, 101, 32]⟩ : ByteArray).size = 5 := rfl; have : (⟨#[32]⟩ : ByteArray).size = 1 := rfl; omega))
   obtain rfl := Option.some.inj H
   go_enter Tryd.func11, Tryd.ntmps11
   try go_wp2_with (first | ((with_reducible refine gate_dst (N := 1) rfl ?_); refine bx 24 #[.int .i64 a0_0, .string a0_1, .string a0_2, .int .i64 a0_3, .string a0_4] ?_; intro gb145 hg w21 hbox hb; have BK145 := am (hbox); have GW145 := am (zn hg (zb HB)); have GE145 := am (zn hg (zb HB)); replace HB := am (below_step (zb HB) hb); clear hb hbox hg; have hcz22_0 := ce0 BK145; have hcz22_1 := ce1 BK145; have hcz22_2 := ce2 BK145; have hcz22_3 := ce3 BK145; have hcz22_4 := ce4 BK145; have hfz22_0 := bfz BK145 0; have hfz22_1 := bfz BK145 1; have hfz22_2 := bfz BK145 2; have hfz22_3 := bfz BK145 3; have hfz22_4 := bfz BK145 4) | ((with_reducible refine gate_callee (f := 23) rfl ?_); refine goesL_ (some 4) rfl rfl Tryd.func23 (by kernel_rfl) rfl #[.agg #[.int .i64 a0_0, .string a0_1, .string a0_2, .int .i64 a0_3, .string a0_4]] rfl (by (try simp only [List.map_toArray, List.map_cons, List.map_nil]); first | done | rfl | (simp only [List.length_drop, List.length_take]; rfl)) ?_; (with_reducible refine (spec_OpOk.calls k a0_0 a0_1 a0_2 a0_3 a0_4 true _ A2.out).mono ?_); rintro e w23 ⟨rfl, hb⟩; refine ⟨_, rfl, ?_⟩; replace BK145 := am (blk_below (zk BK145) hb); replace HB := am (below_step (zb HB) hb); (try clear hb); (try clear hb2); (try clear hk); (try clear hi); have hcz24_0 := ce0 BK145; have hcz24_1 := ce1 BK145; have hcz24_2 := ce2 BK145; have hcz24_3 := ce3 BK145; have hcz24_4 := ce4 BK145; have hfz24_0 := bfz BK145 0; have hfz24_1 := bfz BK145 1; have hfz24_2 := bfz BK145 2; have hfz24_3 := bfz BK145 3; have hfz24_4 := bfz BK145 4))
   replace BK145 := am (blk_drew BK145.out)
   replace HB := am (below_drew1 HB.out)
   refine start_ (n := 9) (S := fun w' => w'.cell? ⟨gb145, 0, none⟩ = some (.int .i64 a0_0) ∧ w'.cell? ⟨gb145, 1, none⟩ = some (.string a0_1) ∧ w'.cell? ⟨gb145, 2, none⟩ = some (.string a0_2) ∧ w'.cell? ⟨gb145, 3, none⟩ = some (.int .i64 a0_3) ∧ w'.cell? ⟨gb145, 4, none⟩ = some (.string a0_4)) (ds := []) (bs 9 0) (by kernel_rfl) rfl rfl ⟨ce0 BK145, ce1 BK145, ce2 BK145, ce3 BK145, ce4 BK145⟩ (fun hHeld => ?_); refine with_tabW spec_OpText.tab8 spec_OpText.bits8 (fun HT_ HW_ => ?_)
   generalize w23.drew = w25 at BK145 HB hHeld ⊢
   refine pu 0 23 9 1 rfl rfl ?_
   refine pu 4 27 9 17 rfl rfl ?_
   refine ta5 1 24 9 19 rfl rfl hHeld ?_
   refine pu 2 25 9 23 rfl rfl ?_
   refine pu 3 26 9 31 rfl rfl ?_
   refine ta5 5 28 9 63 rfl rfl hHeld ?_
   refine oz 6 9 127 rfl rfl (fun K hK => ?_)
   refine goes_ Tryd.func24 (by kernel_rfl) rfl #[.int .i64 a0_3] (by rfl) rfl rfl (by (try simp only [List.map_toArray, List.map_cons, List.map_nil]); first | done | rfl | (simp only [List.length_drop, List.length_take]; rfl)) ?_
   with_reducible refine (spec_l6Dec.calls k a0_3 t148 _ A19.out).mono ?_
   rintro e w26 ⟨rfl, hb⟩
   refine ⟨_, rfl, ?_⟩
   replace BK145 := am (blk_below (zk BK145) hb)
   replace HB := am (below_step (zb HB) hb)
   (try clear hb)
   (try clear hb2)
   (try clear hk)
   (try clear hi)
   refine hK.out _ _ ⟨ce0 BK145, ce1 BK145, ce2 BK145, ce3 BK145, ce4 BK145⟩ (fun hHeld => ?_)
   clear hK K
   refine norm_ (a' := ?_) ?_ ?_
   rotate_left
   · show Act.put _ (some 29) _ = _
     simp only [Act.put, List.setIfInBounds_toArray, List.set_cons_zero, List.set_cons_succ, i64_w, i32_w]
     rfl
   refine pu 7 30 9 255 rfl rfl ?_
   refine pu 8 2 9 511 rfl rfl ?_
   refine done_ (done_of HT_.out (by kernel_rfl)) ?_
   try go_wp2
   go_ret
   exact ⟨zv, (zb HB)⟩
 rw [if_neg c16] at H
 have c16b0 : (a0_4.toList == ([] : List UInt8)) = false := beq_eq_false_iff_ne.mpr c16
 have c16b1 : (a0_4.toList != ([] : List UInt8)) = true := bne_iff_ne.mpr c16
 by_cases c27 : 6 + a0_1.size ≤ 9223372036854775807
 rotate_left
 · rw [if_neg c27] at H
   exact absurd H (by simp)
 rw [if_pos c27] at H
 have c27b0 := eq_true c27
 have c27b1 : decide (6 + a0_1.size ≤ 9223372036854775807) = true := decide_eq_true c27
 try have c27b2 : (9223372036854775807 < 6 + a0_1.size) = False := eq_false (Nat.not_lt.2 c27)
 by_cases c28 : ((⟨#[119, 114, 105, 116, 101, 32]⟩ : ByteArray) ++ a0_1).size + 1 ≤ 9223372036854775807
 rotate_left
 · rw [if_neg c28] at H
   exact absurd H (by simp)
 rw [if_pos c28] at H
 have c28b0 := eq_true c28
 have c28b1 : decide (((⟨#[119, 114, 105, 116, 101, 32]⟩ : ByteArray) ++ a0_1).size + 1 ≤ 9223372036854775807) = true := decide_eq_true c28
 try have c28b2 : (9223372036854775807 < ((⟨#[119, 114, 105, 116, 101, 32]⟩ : ByteArray) ++ a0_1).size + 1) = False := eq_false (Nat.not_lt.2 c28)
 (try have c28b3 : (9223372036854775807 < 6 + a0_1.size + 1) = False := eq_false (by have q_ := c28; simp only [ByteArray.size_append] at q_; have : (⟨#[119, 114, 105, 116, 101, 32]⟩ : ByteArray).size = 6 := rfl; omega))
 replace H := obs H
 obtain ⟨t149, A290, H⟩ := H
 replace H : (if (((⟨#[119, 114, 105, 116, 101, 32]⟩ : ByteArray) ++ a0_1) ++ (⟨#[32]⟩ : ByteArray)).size + t149.size ≤ 9223372036854775807 then (if ((((⟨#[119, 114, 105, 116, 101, 32]⟩ : ByteArray) ++ a0_1) ++ (⟨#[32]⟩ : ByteArray)) ++ t149).size + 1 ≤ 9223372036854775807 then (if (((((⟨#[119, 114, 105, 116, 101, 32]⟩ : ByteArray) ++ a0_1) ++ (⟨#[32]⟩ : ByteArray)) ++ t149) ++ (⟨#[32]⟩ : ByteArray)).size + a0_4.size ≤ 9223372036854775807 then (some ((((((⟨#[119, 114, 105, 116, 101, 32]⟩ : ByteArray) ++ a0_1) ++ (⟨#[32]⟩ : ByteArray)) ++ t149) ++ (⟨#[32]⟩ : ByteArray)) ++ a0_4)) else (none)) else (none)) else (none)) = some r := H
 have A29 := am A290
 clear A290
 by_cases c30 : (((⟨#[119, 114, 105, 116, 101, 32]⟩ : ByteArray) ++ a0_1) ++ (⟨#[32]⟩ : ByteArray)).size + t149.size ≤ 9223372036854775807
 rotate_left
 · rw [if_neg c30] at H
   exact absurd H (by simp)
 rw [if_pos c30] at H
 have c30b0 := eq_true c30
 have c30b1 : decide ((((⟨#[119, 114, 105, 116, 101, 32]⟩ : ByteArray) ++ a0_1) ++ (⟨#[32]⟩ : ByteArray)).size + t149.size ≤ 9223372036854775807) = true := decide_eq_true c30
 try have c30b2 : (9223372036854775807 < (((⟨#[119, 114, 105, 116, 101, 32]⟩ : ByteArray) ++ a0_1) ++ (⟨#[32]⟩ : ByteArray)).size + t149.size) = False := eq_false (Nat.not_lt.2 c30)
 (try have c30b3 : (9223372036854775807 < 6 + a0_1.size + 1 + t149.size) = False := eq_false (by have q_ := c30; simp only [ByteArray.size_append] at q_; have : (⟨#[119, 114, 105, 116, 101, 32]⟩ : ByteArray).size = 6 := rfl; have : (⟨#[32]⟩ : ByteArray).size = 1 := rfl; omega))
 by_cases c31 : ((((⟨#[119, 114, 105, 116, 101, 32]⟩ : ByteArray) ++ a0_1) ++ (⟨#[32]⟩ : ByteArray)) ++ t149).size + 1 ≤ 9223372036854775807
 rotate_left
 · rw [if_neg c31] at H
   exact absurd H (by simp)
 rw [if_pos c31] at H
 have c31b0 := eq_true c31
 have c31b1 : decide (((((⟨#[119, 114, 105, 116, 101, 32]⟩ : ByteArray) ++ a0_1) ++ (⟨#[32]⟩ : ByteArray)) ++ t149).size + 1 ≤ 9223372036854775807) = true := decide_eq_true c31
 try have c31b2 : (9223372036854775807 < ((((⟨#[119, 114, 105, 116, 101, 32]⟩ : ByteArray) ++ a0_1) ++ (⟨#[32]⟩ : ByteArray)) ++ t149).size + 1) = False := eq_false (Nat.not_lt.2 c31)
 (try have c31b3 : (9223372036854775807 < 6 + a0_1.size + 1 + t149.size + 1) = False := eq_false (by have q_ := c31; simp only [ByteArray.size_append] at q_; have : (⟨#[119, 114, 105, 116, 101, 32]⟩ : ByteArray).size = 6 := rfl; have : (⟨#[32]⟩ : ByteArray).size = 1 := rfl; omega))
 by_cases c32 : (((((⟨#[119, 114, 105, 116, 101, 32]⟩ : ByteArray) ++ a0_1) ++ (⟨#[32]⟩ : ByteArray)) ++ t149) ++ (⟨#[32]⟩ : ByteArray)).size + a0_4.size ≤ 9223372036854775807
 rotate_left
 · rw [if_neg c32] at H
   exact absurd H (by simp)
 rw [if_pos c32] at H
 have c32b0 := eq_true c32
 have c32b1 : decide ((((((⟨#[119, 114, 105, 116, 101, 32]⟩ : ByteArray) ++ a0_1) ++ (⟨#[32]⟩ : ByteArray)) ++ t149) ++ (⟨#[32]⟩ : ByteArray)).size + a0_4.size ≤ 9223372036854775807) = true := decide_eq_true c32
 try have c32b2 : (9223372036854775807 < (((((⟨#[119, 114, 105, 116, 101, 32]⟩ : ByteArray) ++ a0_1) ++ (⟨#[32]⟩ : ByteArray)) ++ t149) ++ (⟨#[32]⟩ : ByteArray)).size + a0_4.size) = False := eq_false (Nat.not_lt.2 c32)
 (try have c32b3 : (9223372036854775807 < 6 + a0_1.size + 1 + t149.size + 1 + a0_4.size) = False := eq_false (by have q_ := c32; simp only [ByteArray.size_append] at q_; have : (⟨#[119, 114, 105, 116, 101, 32]⟩ : ByteArray).size = 6 := rfl; have : (⟨#[32]⟩ : ByteArray).size = 1 := rfl; omega))
 obtain rfl := Option.some.inj H
 go_enter Tryd.func11, Tryd.ntmps11
 try go_wp2_with (first | ((with_reducible refine gate_dst (N := 1) rfl ?_); refine bx 24 #[.int .i64 a0_0, .string a0_1, .string a0_2, .int .i64 a0_3, .string a0_4] ?_; intro gb145 hg w33 hbox hb; have BK145 := am (hbox); have GW145 := am (zn hg (zb HB)); have GE145 := am (zn hg (zb HB)); replace HB := am (below_step (zb HB) hb); clear hb hbox hg; have hcz34_0 := ce0 BK145; have hcz34_1 := ce1 BK145; have hcz34_2 := ce2 BK145; have hcz34_3 := ce3 BK145; have hcz34_4 := ce4 BK145; have hfz34_0 := bfz BK145 0; have hfz34_1 := bfz BK145 1; have hfz34_2 := bfz BK145 2; have hfz34_3 := bfz BK145 3; have hfz34_4 := bfz BK145 4) | ((with_reducible refine gate_callee (f := 23) rfl ?_); refine goesL_ (some 4) rfl rfl Tryd.func23 (by kernel_rfl) rfl #[.agg #[.int .i64 a0_0, .string a0_1, .string a0_2, .int .i64 a0_3, .string a0_4]] rfl (by (try simp only [List.map_toArray, List.map_cons, List.map_nil]); first | done | rfl | (simp only [List.length_drop, List.length_take]; rfl)) ?_; (with_reducible refine (spec_OpOk.calls k a0_0 a0_1 a0_2 a0_3 a0_4 true _ A2.out).mono ?_); rintro e w35 ⟨rfl, hb⟩; refine ⟨_, rfl, ?_⟩; replace BK145 := am (blk_below (zk BK145) hb); replace HB := am (below_step (zb HB) hb); (try clear hb); (try clear hb2); (try clear hk); (try clear hi); have hcz36_0 := ce0 BK145; have hcz36_1 := ce1 BK145; have hcz36_2 := ce2 BK145; have hcz36_3 := ce3 BK145; have hcz36_4 := ce4 BK145; have hfz36_0 := bfz BK145 0; have hfz36_1 := bfz BK145 1; have hfz36_2 := bfz BK145 2; have hfz36_3 := bfz BK145 3; have hfz36_4 := bfz BK145 4))
 replace BK145 := am (blk_drew BK145.out)
 replace HB := am (below_drew1 HB.out)
 refine start_ (n := 13) (S := fun w' => w'.cell? ⟨gb145, 0, none⟩ = some (.int .i64 a0_0) ∧ w'.cell? ⟨gb145, 1, none⟩ = some (.string a0_1) ∧ w'.cell? ⟨gb145, 2, none⟩ = some (.string a0_2) ∧ w'.cell? ⟨gb145, 3, none⟩ = some (.int .i64 a0_3) ∧ w'.cell? ⟨gb145, 4, none⟩ = some (.string a0_4)) (ds := []) (bs 13 0) (by kernel_rfl) rfl rfl ⟨ce0 BK145, ce1 BK145, ce2 BK145, ce3 BK145, ce4 BK145⟩ (fun hHeld => ?_); refine with_tabW spec_OpText.tab9 spec_OpText.bits9 (fun HT_ HW_ => ?_)
 generalize w35.drew = w37 at BK145 HB hHeld ⊢
 refine pu 0 31 13 1 rfl rfl ?_
 refine pu 4 35 13 17 rfl rfl ?_
 refine pu 9 40 13 529 rfl rfl ?_
 refine ta5 1 32 13 531 rfl rfl hHeld ?_
 refine pu 2 33 13 535 rfl rfl ?_
 refine pu 3 34 13 543 rfl rfl ?_
 refine ta5 5 36 13 575 rfl rfl hHeld ?_
 refine ta5 10 41 13 1599 rfl rfl hHeld ?_
 refine oz 6 13 1663 rfl rfl (fun K hK => ?_)
 refine goes_ Tryd.func24 (by kernel_rfl) rfl #[.int .i64 a0_3] (by rfl) rfl rfl (by (try simp only [List.map_toArray, List.map_cons, List.map_nil]); first | done | rfl | (simp only [List.length_drop, List.length_take]; rfl)) ?_
 with_reducible refine (spec_l6Dec.calls k a0_3 t149 _ A29.out).mono ?_
 rintro e w38 ⟨rfl, hb⟩
 refine ⟨_, rfl, ?_⟩
 replace BK145 := am (blk_below (zk BK145) hb)
 replace HB := am (below_step (zb HB) hb)
 (try clear hb)
 (try clear hb2)
 (try clear hk)
 (try clear hi)
 refine hK.out _ _ ⟨ce0 BK145, ce1 BK145, ce2 BK145, ce3 BK145, ce4 BK145⟩ (fun hHeld => ?_)
 clear hK K
 refine norm_ (a' := ?_) ?_ ?_
 rotate_left
 · show Act.put _ (some 37) _ = _
   simp only [Act.put, List.setIfInBounds_toArray, List.set_cons_zero, List.set_cons_succ, i64_w, i32_w]
   rfl
 refine pu 7 38 13 1791 rfl rfl ?_
 refine pu 8 39 13 2047 rfl rfl ?_
 refine pu 11 42 13 4095 rfl rfl ?_
 refine pu 12 2 13 8191 rfl rfl ?_
 refine done_ (done_of HT_.out (by kernel_rfl)) ?_
 try go_wp2
 go_ret
 exact ⟨zv, (zb HB)⟩
end Go.Proofs.YtagfiehoodepbaaDoor.PFnOpStrict
