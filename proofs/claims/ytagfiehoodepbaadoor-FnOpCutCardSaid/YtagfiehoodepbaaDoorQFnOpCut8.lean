/- The walk: each function that the law comes to as a plain Lean function, and a proof that the Go code answers so. Written by this session's program over the kit's printer. -/
import Derived.Test.YtagfiehoodepbaaDoorZ
import Derived.Test.YtagfiehoodepbaaDoorQFnOpCut0
import Derived.Test.YtagfiehoodepbaaDoorQFnOpCut1
import Derived.Test.YtagfiehoodepbaaDoorQFnOpCut3
import Derived.Test.YtagfiehoodepbaaDoorQFnOpCut4
import Derived.Test.YtagfiehoodepbaaDoorQFnOpCut6
import Derived.Test.YtagfiehoodepbaaDoorQFnOpCut7
namespace Go.Proofs.YtagfiehoodepbaaDoor.PFnOpCut
open Go.RowKit Go.Proofs.YtagfiehoodepbaaDoorW.PrintWords Go.Proofs.YtagfiehoodepbaaDoorW.PrintLast Go.Proofs.YtagfiehoodepbaaDoorW.PrintMore
attribute [local go_sem] max2_int min2_int max_two min_two max_three min_three max_four min_four   -- for this text's walks alone
set_option linter.unusedVariables false
set_option linter.unusedSimpArgs false
attribute [local go_sem high] eqA24
/-! ### laws_FnOpCut: function 3 -/
def laws_FnOpCut.j0 : Nat → ByteArray → Bool → Int → ByteArray → ByteArray → Int → ByteArray → Option (Bool)
 | 0, _, _, _, _, _, _, _ => none
 | k + 1, x4, x25, x220000, x220001, x220002, x220003, x220004 => if x25 = true then ((spec_OpText.f k x220000 x220001 x220002 x220003 x220004).bind fun t222 => (some (x4.toList == t222.toList))) else (if 0 ≤ (wrap64 ((x4.size : Int) - 1)) then (if (wrap64 ((x4.size : Int) - 1)) ≤ (x4.size : Int) then ((impl_OpRead.f k (x4.extract 0 ((wrap64 ((x4.size : Int) - 1)) : Int).toNat)).bind fun bt223 => (if x4.size + 1 ≤ 9223372036854775807 then ((impl_OpRead.f k (x4 ++ (⟨#[32]⟩ : ByteArray))).bind fun bt230 => (if 1 + x4.size ≤ 9223372036854775807 then ((impl_OpRead.f k ((⟨#[32]⟩ : ByteArray) ++ x4)).bind fun bt237 => (if bt223.2.2.2.2.2 = true then (if (!(bt223.1 == x220000) || (!(bt223.2.1.toList == x220001.toList) || (!(bt223.2.2.1.toList == x220002.toList) || (!(bt223.2.2.2.1 == x220003) || (!(bt223.2.2.2.2.1.toList == x220004.toList)))))) = true then (if bt230.2.2.2.2.2 = true then (some false) else (some (!bt237.2.2.2.2.2))) else (some false)) else (if bt230.2.2.2.2.2 = true then (some false) else (some (!bt237.2.2.2.2.2))))) else (none))) else (none))) else (none)) else (none))
def laws_FnOpCut.f (k : Nat) (l0 : List Int) : Option (Bool) := if (l0.length : Int) > 1048576 then (some true) else ((spec_DrawOpText.f k l0).bind fun bt214 => ((impl_OpText.f k bt214.1 bt214.2.1 bt214.2.2.1 bt214.2.2.2.1 bt214.2.2.2.2).bind fun t220 => ((spec_OpText.f k bt214.1 bt214.2.1 bt214.2.2.1 bt214.2.2.2.1 bt214.2.2.2.2).bind fun t221 => (if t220.toList = t221.toList then (laws_FnOpCut.j0 k t220 (t220.toList == ([] : List UInt8)) bt214.1 bt214.2.1 bt214.2.2.1 bt214.2.2.2.1 bt214.2.2.2.2) else (laws_FnOpCut.j0 k t220 true bt214.1 bt214.2.1 bt214.2.2.1 bt214.2.2.2.1 bt214.2.2.2.2)))))
theorem laws_FnOpCut.mono_l : ∀ k, (∀ y0 y1 y2 y3 y4 y5 y6, LeO (laws_FnOpCut.j0 k y0 y1 y2 y3 y4 y5 y6) (laws_FnOpCut.j0 (k + 1) y0 y1 y2 y3 y4 y5 y6))
 | 0 => fun _ _ _ _ _ _ _ r h => by simp [laws_FnOpCut.j0] at h
 | k + 1 => by
  have ih0 := laws_FnOpCut.mono_l k
  intro y0 y1 y2 y3 y4 y5 y6
  unfold laws_FnOpCut.j0
  exact mo5 ih0 @impl_OpRead.mono @impl_OpText.mono @spec_DrawOpText.mono @spec_OpText.mono
theorem laws_FnOpCut.mono : ∀ a0 k, LeO (laws_FnOpCut.f k a0) (laws_FnOpCut.f (k + 1) a0) := by
 intro a0 k
 have ih0 := laws_FnOpCut.mono_l k
 unfold laws_FnOpCut.f
 exact mo5 ih0 @impl_OpRead.mono @impl_OpText.mono @spec_DrawOpText.mono @spec_OpText.mono
set_option maxHeartbeats 8000000 in
set_option maxRecDepth 100000 in
theorem laws_FnOpCut.calls (k : Nat) (A0 : Option Addr) (c0 : Nat) (l0 : List Int) (r : Bool) (w : World) (hr0 : Kd.C (Kd.int .u8) w A0 l0.length l0) (hc0 : l0.length ≤ c0) (h : laws_FnOpCut.f k l0 = some r) (hW : ROK w) :
 Calls Tryd.prog 3 #[.slice A0 l0.length c0] w fun e w' => e = .returned (.bool r) ∧ Below w.heap.size w w' := by
 have HW_ := am hW
 clear hW
 have hu24 := Tryd.underlying24
 have HR0 := am hr0
 have HC0 := am hc0
 clear hr0 hc0
 have HB := am (Below.refl w.heap.size w)
 have H : (if (l0.length : Int) > 1048576 then (some true) else ((spec_DrawOpText.f k l0).bind fun bt214 => ((impl_OpText.f k bt214.1 bt214.2.1 bt214.2.2.1 bt214.2.2.2.1 bt214.2.2.2.2).bind fun t220 => ((spec_OpText.f k bt214.1 bt214.2.1 bt214.2.2.1 bt214.2.2.2.1 bt214.2.2.2.2).bind fun t221 => (if t220.toList = t221.toList then (laws_FnOpCut.j0 k t220 (t220.toList == ([] : List UInt8)) bt214.1 bt214.2.1 bt214.2.2.1 bt214.2.2.2.1 bt214.2.2.2.2) else (laws_FnOpCut.j0 k t220 true bt214.1 bt214.2.1 bt214.2.2.1 bt214.2.2.2.1 bt214.2.2.2.2)))))) = some r := h
 clear h
 by_cases c2 : (l0.length : Int) > 1048576
 · rw [if_pos c2] at H
   have c2b0 : decide (1048576 < (l0.length : Int)) = true := decide_eq_true c2
   have c2b1 : decide (1048576 < l0.length) = true := decide_eq_true (by omega)
   clear c2
   obtain rfl := Option.some.inj H
   go_enter Tryd.func3, Tryd.ntmps3
   go_wp2
   go_ret
   exact ⟨zv, (zb HB)⟩
 rw [if_neg c2] at H
 have c2b0 : decide (1048576 < (l0.length : Int)) = false := decide_eq_false c2
 have c2b1 : decide (1048576 < l0.length) = false := decide_eq_false (by omega)
 clear c2
 replace H := obs H
 obtain ⟨⟨t214, t215, t216, t217, t218⟩, A30, H⟩ := H
 replace H : ((impl_OpText.f k t214 t215 t216 t217 t218).bind fun t220 => ((spec_OpText.f k t214 t215 t216 t217 t218).bind fun t221 => (if t220.toList = t221.toList then (laws_FnOpCut.j0 k t220 (t220.toList == ([] : List UInt8)) t214 t215 t216 t217 t218) else (laws_FnOpCut.j0 k t220 true t214 t215 t216 t217 t218)))) = some r := H
 have A3 := am A30
 clear A30
 replace H := obs H
 obtain ⟨t220, A40, H⟩ := H
 replace H : ((spec_OpText.f k t214 t215 t216 t217 t218).bind fun t221 => (if t220.toList = t221.toList then (laws_FnOpCut.j0 k t220 (t220.toList == ([] : List UInt8)) t214 t215 t216 t217 t218) else (laws_FnOpCut.j0 k t220 true t214 t215 t216 t217 t218))) = some r := H
 have A4 := am A40
 clear A40
 have HC5 := am H
 clear H
 go_enter Tryd.func3, Tryd.ntmps3
 go_upto_region 5 with (first | ((with_reducible refine gate_callee (f := 9) rfl ?_); refine goesL_ (some 15) rfl rfl Tryd.func9 (by kernel_rfl) rfl #[.slice A0 l0.length c0] rfl (by (try simp only [List.map_toArray, List.map_cons, List.map_nil]); first | done | rfl | (simp only [List.length_drop, List.length_take]; rfl)) ?_; (with_reducible refine (spec_DrawOpText.calls k _ _ l0 t214 t215 t216 t217 t218 _ ?side1 ?side2 A3.out).mono ?_); (case side1 => repeat (first | exact HR0.out | (with_reducible refine Kd.C_alloc ?_ _) | (with_reducible refine Kd.C_drewN ?_ _) | (with_reducible refine Kd.C_drew ?_))); (case side2 => exact HC0.out); rintro e w6 ⟨rfl, hb⟩; refine ⟨_, rfl, ?_⟩; replace HB := am (below_step (zb HB) hb); (try clear hb); (try clear hb2); (try clear hk); (try clear hi)) | ((with_reducible refine gate_dst (N := 3) rfl ?_); refine bx 24 #[.int .i64 0, .string (⟨#[]⟩ : ByteArray), .string (⟨#[]⟩ : ByteArray), .int .i64 0, .string (⟨#[]⟩ : ByteArray)] ?_; intro gb219 hg w7 hbox hb; have BK219 := am (hbox); have GW219 := am (zn hg (zb HB)); have GE219 := am (zn hg (zb HB)); replace HB := am (below_step (zb HB) hb); clear hb hbox hg; have hcz8_0 := ce0 BK219; have hcz8_1 := ce1 BK219; have hcz8_2 := ce2 BK219; have hcz8_3 := ce3 BK219; have hcz8_4 := ce4 BK219; have hfz8_0 := bfz BK219 0; have hfz8_1 := bfz BK219 1; have hfz8_2 := bfz BK219 2; have hfz8_3 := bfz BK219 3; have hfz8_4 := bfz BK219 4) | ((with_reducible refine gate_callee (f := 10) rfl ?_); refine goesL_ (some 17) rfl rfl Tryd.func10 (by kernel_rfl) rfl #[.agg #[.int .i64 t214, .string t215, .string t216, .int .i64 t217, .string t218]] rfl (by (try simp only [List.map_toArray, List.map_cons, List.map_nil]); first | done | rfl | (simp only [List.length_drop, List.length_take]; rfl)) ?_; (with_reducible refine (impl_OpText.calls k t214 t215 t216 t217 t218 t220 _ A4.out).mono ?_); rintro e w9 ⟨rfl, hb⟩; refine ⟨_, rfl, ?_⟩; replace BK219 := am (blk_below (g := gb219) (o := .cells #[.int .i64 t214, .string t215, .string t216, .int .i64 t217, .string t218] 24 (0, 0)) (zp BK219) hb); replace HB := am (below_step (zb HB) hb); (try clear hb); (try clear hb2); (try clear hk); (try clear hi)))
 (try simp only [Act.put, List.setIfInBounds_toArray, List.set_cons_zero, List.set_cons_succ])
 go_cut [25] (fun v25 wc => ∃ (kq : Nat) (x25_4 : Bool), v25 = .bool x25_4 ∧ Aside0 (laws_FnOpCut.j0 kq t220 x25_4 t214 t215 t216 t217 t218 = some r) ∧ Aside0 (kq ≤ k) ∧ Aside0 (wc.heap[gb219]? = some (.cells #[.int .i64 t214, .string t215, .string t216, .int .i64 t217, .string t218] 24 (0, 0))) ∧ Aside0 (Below w.heap.size w wc))
 case first =>
  have H := HC5.out
  clear HC5
  replace H := obs H
  obtain ⟨t221, A100, H⟩ := H
  replace H : (if t220.toList = t221.toList then (laws_FnOpCut.j0 k t220 (t220.toList == ([] : List UInt8)) t214 t215 t216 t217 t218) else (laws_FnOpCut.j0 k t220 true t214 t215 t216 t217 t218)) = some r := H
  have A10 := am A100
  clear A100
  by_cases c11 : t220.toList = t221.toList
  · rw [if_pos c11] at H
    have c11b0 : (t220.toList == t221.toList) = true := beq_iff_eq.mpr c11
    have c11b1 : (t220.toList != t221.toList) = false := bne_eq_false_iff_eq.mpr c11
    clear c11
    (first | rw [c11b0] | (simp only [i64_w, i32_w]; rw [c11b0]) | skip)
    have H' := am H
    clear H
    have hcz12_0 := ce0 BK219
    have hcz12_1 := ce1 BK219
    have hcz12_2 := ce2 BK219
    have hcz12_3 := ce3 BK219
    have hcz12_4 := ce4 BK219
    have hfz12_0 := bfz BK219 0
    have hfz12_1 := bfz BK219 1
    have hfz12_2 := bfz BK219 2
    have hfz12_3 := bfz BK219 3
    have hfz12_4 := bfz BK219 4
    go_wp2_with (first | ((with_reducible refine gate_callee (f := 11) rfl ?_); refine goesL_ (some 20) rfl rfl Tryd.func11 (by kernel_rfl) rfl #[.agg #[.int .i64 t214, .string t215, .string t216, .int .i64 t217, .string t218]] rfl (by (try simp only [List.map_toArray, List.map_cons, List.map_nil]); first | done | rfl | (simp only [List.length_drop, List.length_take]; rfl)) ?_; (with_reducible refine (spec_OpText.calls k t214 t215 t216 t217 t218 t221 _ A10.out).mono ?_); rintro e w13 ⟨rfl, hb⟩; refine ⟨_, rfl, ?_⟩; replace BK219 := am (blk_below (zk BK219) hb); replace HB := am (below_step (zb HB) hb); (try clear hb); (try clear hb2); (try clear hk); (try clear hi)))
    go_meet
    case rel => exact ⟨_, ((t220.toList == ([] : List UInt8))), ze, H', ⟨by first | omega | exact Nat.le_refl _⟩, ⟨zk BK219⟩, ⟨zb HB⟩⟩
  rw [if_neg c11] at H
  have c11b0 : (t220.toList == t221.toList) = false := beq_eq_false_iff_ne.mpr c11
  have c11b1 : (t220.toList != t221.toList) = true := bne_iff_ne.mpr c11
  (first | rw [c11b0] | (simp only [i64_w, i32_w]; rw [c11b0]) | skip)
  have H' := am H
  clear H
  have hcz14_0 := ce0 BK219
  have hcz14_1 := ce1 BK219
  have hcz14_2 := ce2 BK219
  have hcz14_3 := ce3 BK219
  have hcz14_4 := ce4 BK219
  have hfz14_0 := bfz BK219 0
  have hfz14_1 := bfz BK219 1
  have hfz14_2 := bfz BK219 2
  have hfz14_3 := bfz BK219 3
  have hfz14_4 := bfz BK219 4
  go_wp2_with (first | ((with_reducible refine gate_callee (f := 11) rfl ?_); refine goesL_ (some 20) rfl rfl Tryd.func11 (by kernel_rfl) rfl #[.agg #[.int .i64 t214, .string t215, .string t216, .int .i64 t217, .string t218]] rfl (by (try simp only [List.map_toArray, List.map_cons, List.map_nil]); first | done | rfl | (simp only [List.length_drop, List.length_take]; rfl)) ?_; (with_reducible refine (spec_OpText.calls k t214 t215 t216 t217 t218 t221 _ A10.out).mono ?_); rintro e w15 ⟨rfl, hb⟩; refine ⟨_, rfl, ?_⟩; replace BK219 := am (blk_below (zk BK219) hb); replace HB := am (below_step (zb HB) hb); (try clear hb); (try clear hb2); (try clear hk); (try clear hi)))
  go_meet
  case rel => exact ⟨_, (true), ze, H', ⟨by first | omega | exact Nat.le_refl _⟩, ⟨zk BK219⟩, ⟨zb HB⟩⟩
 clear HC5
 try clear c1
 try clear c2
 try clear c2b0
 try clear c2b1
 try clear p2
 try clear c3
 try clear c9
 try clear c10
 try clear c11
 try clear c11b0
 try clear c11b1
 try clear hcz12_0
 try clear hcz12_1
 try clear hcz12_2
 try clear hcz12_3
 try clear hcz12_4
 try clear hcz14_0
 try clear hcz14_1
 try clear hcz14_2
 try clear hcz14_3
 try clear hcz14_4
 try clear hcz8_0
 try clear hcz8_1
 try clear hcz8_2
 try clear hcz8_3
 try clear hcz8_4
 try clear hfz12_0
 try clear hfz12_1
 try clear hfz12_2
 try clear hfz12_3
 try clear hfz12_4
 try clear hfz14_0
 try clear hfz14_1
 try clear hfz14_2
 try clear hfz14_3
 try clear hfz14_4
 try clear hfz8_0
 try clear hfz8_1
 try clear hfz8_2
 try clear hfz8_3
 try clear hfz8_4
 obtain ⟨kq, x25_4, rfl, HA, HJ4, BK219, HB⟩ := hcut
 cases kq with
 | zero => exact absurd HA.out (by simp [laws_FnOpCut.j0])
 | succ kj4 =>
  have H := HA.out
  clear HA
  simp only [laws_FnOpCut.j0] at H
  by_cases c16 : x25_4 = true
  · subst c16
    have H1 : ((spec_OpText.f kj4 t214 t215 t216 t217 t218).bind fun t222 => (some (t220.toList == t222.toList))) = some r := by rw [if_pos rfl] at H; exact H
    clear H
    have H := H1
    clear H1
    replace H := obs H
    obtain ⟨t222, A170, H⟩ := H
    replace H : (some (t220.toList == t222.toList)) = some r := H
    have A17 := am A170
    clear A170
    obtain rfl := Option.some.inj H
    have hcz18_0 := ce0 BK219
    have hcz18_1 := ce1 BK219
    have hcz18_2 := ce2 BK219
    have hcz18_3 := ce3 BK219
    have hcz18_4 := ce4 BK219
    have hfz18_0 := bfz BK219 0
    have hfz18_1 := bfz BK219 1
    have hfz18_2 := bfz BK219 2
    have hfz18_3 := bfz BK219 3
    have hfz18_4 := bfz BK219 4
    go_wp2_with (first | ((with_reducible refine gate_callee (f := 11) rfl ?_); refine goesL_ (some 28) rfl rfl Tryd.func11 (by kernel_rfl) rfl #[.agg #[.int .i64 t214, .string t215, .string t216, .int .i64 t217, .string t218]] rfl (by (try simp only [List.map_toArray, List.map_cons, List.map_nil]); first | done | rfl | (simp only [List.length_drop, List.length_take]; rfl)) ?_; (with_reducible refine (spec_OpText.calls kj4 t214 t215 t216 t217 t218 t222 _ A17.out).mono ?_); rintro e w19 ⟨rfl, hb⟩; refine ⟨_, rfl, ?_⟩; replace BK219 := am (blk_below (zk BK219) hb); replace HB := am (below_step (zb HB) hb); (try clear hb); (try clear hb2); (try clear hk); (try clear hi)))
    go_ret
    exact ⟨zv, (zb HB)⟩
  replace c16 := Bool.eq_false_iff.mpr c16
  subst c16
  have H1 : (if 0 ≤ (wrap64 ((t220.size : Int) - 1)) then (if (wrap64 ((t220.size : Int) - 1)) ≤ (t220.size : Int) then ((impl_OpRead.f kj4 (t220.extract 0 ((wrap64 ((t220.size : Int) - 1)) : Int).toNat)).bind fun bt223 => (if t220.size + 1 ≤ 9223372036854775807 then ((impl_OpRead.f kj4 (t220 ++ (⟨#[32]⟩ : ByteArray))).bind fun bt230 => (if 1 + t220.size ≤ 9223372036854775807 then ((impl_OpRead.f kj4 ((⟨#[32]⟩ : ByteArray) ++ t220)).bind fun bt237 => (if bt223.2.2.2.2.2 = true then (if (!(bt223.1 == t214) || (!(bt223.2.1.toList == t215.toList) || (!(bt223.2.2.1.toList == t216.toList) || (!(bt223.2.2.2.1 == t217) || (!(bt223.2.2.2.2.1.toList == t218.toList)))))) = true then (if bt230.2.2.2.2.2 = true then (some false) else (some (!bt237.2.2.2.2.2))) else (some false)) else (if bt230.2.2.2.2.2 = true then (some false) else (some (!bt237.2.2.2.2.2))))) else (none))) else (none))) else (none)) else (none)) = some r := by rw [if_neg (show ¬ (false = true) by decide)] at H; exact H
  clear H
  have H := H1
  clear H1
  obtain ⟨ji20, hji20⟩ : ∃ j_ : Int, (wrap64 ((t220.size : Int) - 1)) = j_ := ⟨_, rfl⟩
  replace H : (if 0 ≤ (ji20) then (if (ji20) ≤ (t220.size : Int) then ((impl_OpRead.f kj4 (t220.extract 0 ((ji20) : Int).toNat)).bind fun bt223 => (if t220.size + 1 ≤ 9223372036854775807 then ((impl_OpRead.f kj4 (t220 ++ (⟨#[32]⟩ : ByteArray))).bind fun bt230 => (if 1 + t220.size ≤ 9223372036854775807 then ((impl_OpRead.f kj4 ((⟨#[32]⟩ : ByteArray) ++ t220)).bind fun bt237 => (if bt223.2.2.2.2.2 = true then (if (!(bt223.1 == t214) || (!(bt223.2.1.toList == t215.toList) || (!(bt223.2.2.1.toList == t216.toList) || (!(bt223.2.2.2.1 == t217) || (!(bt223.2.2.2.2.1.toList == t218.toList)))))) = true then (if bt230.2.2.2.2.2 = true then (some false) else (some (!bt237.2.2.2.2.2))) else (some false)) else (if bt230.2.2.2.2.2 = true then (some false) else (some (!bt237.2.2.2.2.2))))) else (none))) else (none))) else (none)) else (none)) = some r := by first | (rw [hji20] at H; exact H) | (simp only [hji20] at H ⊢; exact H)
  have hji20w : (IntKind.i64.wrap ((t220.size : Int) - 1)) = ji20 := (i64_w _).trans hji20
  by_cases c21 : 0 ≤ (ji20)
  rotate_left
  · rw [if_neg c21] at H
    exact absurd H (by simp)
  rw [if_pos c21] at H
  have c21b0 := eq_true c21
  have c21b1 : decide (0 ≤ (ji20)) = true := decide_eq_true c21
  clear c21
  by_cases c22 : (ji20) ≤ (t220.size : Int)
  rotate_left
  · rw [if_neg c22] at H
    exact absurd H (by simp)
  rw [if_pos c22] at H
  have c22b0 := eq_true c22
  have c22b1 : decide ((ji20) ≤ (t220.size : Int)) = true := decide_eq_true c22
  clear c22
  replace H := obs H
  obtain ⟨⟨t223, t224, t225, t226, t227, t228⟩, A230, H⟩ := H
  replace H : (if t220.size + 1 ≤ 9223372036854775807 then ((impl_OpRead.f kj4 (t220 ++ (⟨#[32]⟩ : ByteArray))).bind fun bt230 => (if 1 + t220.size ≤ 9223372036854775807 then ((impl_OpRead.f kj4 ((⟨#[32]⟩ : ByteArray) ++ t220)).bind fun bt237 => (if t228 = true then (if (!(t223 == t214) || (!(t224.toList == t215.toList) || (!(t225.toList == t216.toList) || (!(t226 == t217) || (!(t227.toList == t218.toList)))))) = true then (if bt230.2.2.2.2.2 = true then (some false) else (some (!bt237.2.2.2.2.2))) else (some false)) else (if bt230.2.2.2.2.2 = true then (some false) else (some (!bt237.2.2.2.2.2))))) else (none))) else (none)) = some r := H
  have A23 := am A230
  clear A230
  by_cases c24 : t220.size + 1 ≤ 9223372036854775807
  rotate_left
  · rw [if_neg c24] at H
    exact absurd H (by simp)
  rw [if_pos c24] at H
  have c24b0 := eq_true c24
  have c24b1 : decide (t220.size + 1 ≤ 9223372036854775807) = true := decide_eq_true c24
  try have c24b2 : (9223372036854775807 < t220.size + 1) = False := eq_false (Nat.not_lt.2 c24)
  replace H := obs H
  obtain ⟨⟨t230, t231, t232, t233, t234, t235⟩, A250, H⟩ := H
  replace H : (if 1 + t220.size ≤ 9223372036854775807 then ((impl_OpRead.f kj4 ((⟨#[32]⟩ : ByteArray) ++ t220)).bind fun bt237 => (if t228 = true then (if (!(t223 == t214) || (!(t224.toList == t215.toList) || (!(t225.toList == t216.toList) || (!(t226 == t217) || (!(t227.toList == t218.toList)))))) = true then (if t235 = true then (some false) else (some (!bt237.2.2.2.2.2))) else (some false)) else (if t235 = true then (some false) else (some (!bt237.2.2.2.2.2))))) else (none)) = some r := H
  have A25 := am A250
  clear A250
  by_cases c26 : 1 + t220.size ≤ 9223372036854775807
  rotate_left
  · rw [if_neg c26] at H
    exact absurd H (by simp)
  rw [if_pos c26] at H
  have c26b0 := eq_true c26
  have c26b1 : decide (1 + t220.size ≤ 9223372036854775807) = true := decide_eq_true c26
  try have c26b2 : (9223372036854775807 < 1 + t220.size) = False := eq_false (Nat.not_lt.2 c26)
  replace H := obs H
  obtain ⟨⟨t237, t238, t239, t240, t241, t242⟩, A270, H⟩ := H
  replace H : (if t228 = true then (if (!(t223 == t214) || (!(t224.toList == t215.toList) || (!(t225.toList == t216.toList) || (!(t226 == t217) || (!(t227.toList == t218.toList)))))) = true then (if t235 = true then (some false) else (some (!t242))) else (some false)) else (if t235 = true then (some false) else (some (!t242)))) = some r := H
  have A27 := am A270
  clear A270
  by_cases c28 : t228 = true
  rotate_left
  · replace c28 := Bool.eq_false_iff.mpr c28
    subst c28
    have H1 : (if t235 = true then (some false) else (some (!t242))) = some r := by rw [if_neg (show ¬ (false = true) by decide)] at H; exact H
    clear H
    have H := H1
    clear H1
    by_cases c82 : t235 = true
    · subst c82
      have H1 : (some false) = some r := by rw [if_pos rfl] at H; exact H
      clear H
      have H := H1
      clear H1
      obtain rfl := Option.some.inj H
      go_wp2_with (first | ((with_reducible refine gate_callee (f := 12) rfl ?_); refine goesL_ (some 36) rfl rfl Tryd.func12 (by kernel_rfl) rfl #[.string (t220.extract 0 ((ji20) : Int).toNat)] rfl (by (try simp only [List.map_toArray, List.map_cons, List.map_nil]); first | done | (simp only [hji20]; rfl) | rfl | (simp only [List.length_drop, List.length_take]; rfl)) ?_; (with_reducible refine (impl_OpRead.calls kj4 (t220.extract 0 ((ji20) : Int).toNat) t223 t224 t225 t226 t227 false _ A23.out).mono ?_); rintro e w83 ⟨rfl, hb⟩; refine ⟨_, rfl, ?_⟩; replace BK219 := am (blk_below (zk BK219) hb); replace HB := am (below_step (zb HB) hb); (try clear hb); (try clear hb2); (try clear hk); (try clear hi)) | ((with_reducible refine gate_dst (N := 5) rfl ?_); refine bx 24 #[.int .i64 0, .string (⟨#[]⟩ : ByteArray), .string (⟨#[]⟩ : ByteArray), .int .i64 0, .string (⟨#[]⟩ : ByteArray)] ?_; intro gb229 hg w84 hbox hb; have BK229 := am (hbox); have GW229 := am (zn hg (zb HB)); have GE229 := am (zn hg (zb HB)); replace HB := am (below_step (zb HB) hb); have NB219_229 := am (zx hg (zk BK219)); have NB229_219 := am (zy hg (zk BK219)); replace BK219 := am (blk_below (zk BK219) hb); clear hb hbox hg; have hnb85 := NB229_219.out; have hnc85 := NB219_229.out; have hcz86_0 := ce0 BK229; have hcz86_1 := ce1 BK229; have hcz86_2 := ce2 BK229; have hcz86_3 := ce3 BK229; have hcz86_4 := ce4 BK229; have hfz86_0 := bfz BK229 0; have hfz86_1 := bfz BK229 1; have hfz86_2 := bfz BK229 2; have hfz86_3 := bfz BK229 3; have hfz86_4 := bfz BK229 4) | ((with_reducible refine gate_callee (f := 12) rfl ?_); refine goesL_ (some 42) rfl rfl Tryd.func12 (by kernel_rfl) rfl #[.string (t220 ++ (⟨#[32]⟩ : ByteArray))] rfl (by (try simp only [List.map_toArray, List.map_cons, List.map_nil]); first | done | rfl | (simp only [List.length_drop, List.length_take]; rfl)) ?_; (with_reducible refine (impl_OpRead.calls kj4 (t220 ++ (⟨#[32]⟩ : ByteArray)) t230 t231 t232 t233 t234 true _ A25.out).mono ?_); rintro e w87 ⟨rfl, hb⟩; refine ⟨_, rfl, ?_⟩; replace BK219 := am (blk_below (zk BK219) hb); replace BK229 := am (blk_below (g := gb229) (o := .cells #[.int .i64 t223, .string t224, .string t225, .int .i64 t226, .string t227] 24 (0, 0)) (zp BK229) hb); replace HB := am (below_step (zb HB) hb); (try clear hb); (try clear hb2); (try clear hk); (try clear hi)) | ((with_reducible refine gate_dst (N := 7) rfl ?_); refine bx 24 #[.int .i64 0, .string (⟨#[]⟩ : ByteArray), .string (⟨#[]⟩ : ByteArray), .int .i64 0, .string (⟨#[]⟩ : ByteArray)] ?_; intro gb236 hg w88 hbox hb; have BK236 := am (hbox); have GW236 := am (zn hg (zb HB)); have GE236 := am (zn hg (zb HB)); replace HB := am (below_step (zb HB) hb); have NB219_236 := am (zx hg (zk BK219)); have NB236_219 := am (zy hg (zk BK219)); replace BK219 := am (blk_below (zk BK219) hb); have NB229_236 := am (zx hg (zk BK229)); have NB236_229 := am (zy hg (zk BK229)); replace BK229 := am (blk_below (zk BK229) hb); clear hb hbox hg; have hnb89 := NB236_219.out; have hnc89 := NB219_236.out; have hnb90 := NB236_229.out; have hnc90 := NB229_236.out; have hcz91_0 := ce0 BK236; have hcz91_1 := ce1 BK236; have hcz91_2 := ce2 BK236; have hcz91_3 := ce3 BK236; have hcz91_4 := ce4 BK236; have hfz91_0 := bfz BK236 0; have hfz91_1 := bfz BK236 1; have hfz91_2 := bfz BK236 2; have hfz91_3 := bfz BK236 3; have hfz91_4 := bfz BK236 4) | ((with_reducible refine gate_callee (f := 12) rfl ?_); refine goesL_ (some 48) rfl rfl Tryd.func12 (by kernel_rfl) rfl #[.string ((⟨#[32]⟩ : ByteArray) ++ t220)] rfl (by (try simp only [List.map_toArray, List.map_cons, List.map_nil]); first | done | rfl | (simp only [List.length_drop, List.length_take]; rfl)) ?_; (with_reducible refine (impl_OpRead.calls kj4 ((⟨#[32]⟩ : ByteArray) ++ t220) t237 t238 t239 t240 t241 t242 _ A27.out).mono ?_); rintro e w92 ⟨rfl, hb⟩; refine ⟨_, rfl, ?_⟩; replace BK219 := am (blk_below (zk BK219) hb); replace BK229 := am (blk_below (zk BK229) hb); replace BK236 := am (blk_below (g := gb236) (o := .cells #[.int .i64 t230, .string t231, .string t232, .int .i64 t233, .string t234] 24 (0, 0)) (zp BK236) hb); replace HB := am (below_step (zb HB) hb); (try clear hb); (try clear hb2); (try clear hk); (try clear hi)) | ((with_reducible refine gate_dst (N := 9) rfl ?_); refine bx 24 #[.int .i64 0, .string (⟨#[]⟩ : ByteArray), .string (⟨#[]⟩ : ByteArray), .int .i64 0, .string (⟨#[]⟩ : ByteArray)] ?_; intro gb243 hg w93 hbox hb; have BK243 := am (hbox); have GW243 := am (zn hg (zb HB)); have GE243 := am (zn hg (zb HB)); replace HB := am (below_step (zb HB) hb); have NB219_243 := am (zx hg (zk BK219)); have NB243_219 := am (zy hg (zk BK219)); replace BK219 := am (blk_below (zk BK219) hb); have NB229_243 := am (zx hg (zk BK229)); have NB243_229 := am (zy hg (zk BK229)); replace BK229 := am (blk_below (zk BK229) hb); have NB236_243 := am (zx hg (zk BK236)); have NB243_236 := am (zy hg (zk BK236)); replace BK236 := am (blk_below (zk BK236) hb); clear hb hbox hg; have hnb94 := NB243_219.out; have hnc94 := NB219_243.out; have hnb95 := NB243_229.out; have hnc95 := NB229_243.out; have hnb96 := NB243_236.out; have hnc96 := NB236_243.out; have hcz97_0 := ce0 BK243; have hcz97_1 := ce1 BK243; have hcz97_2 := ce2 BK243; have hcz97_3 := ce3 BK243; have hcz97_4 := ce4 BK243; have hfz97_0 := bfz BK243 0; have hfz97_1 := bfz BK243 1; have hfz97_2 := bfz BK243 2; have hfz97_3 := bfz BK243 3; have hfz97_4 := bfz BK243 4))
      go_ret
      exact ⟨by first | exact zv | (simp only [← hji20]; exact zw), (zb HB)⟩
    replace c82 := Bool.eq_false_iff.mpr c82
    subst c82
    have H1 : (some (!t242)) = some r := by rw [if_neg (show ¬ (false = true) by decide)] at H; exact H
    clear H
    have H := H1
    clear H1
    obtain rfl := Option.some.inj H
    go_wp2_with (first | ((with_reducible refine gate_callee (f := 12) rfl ?_); refine goesL_ (some 36) rfl rfl Tryd.func12 (by kernel_rfl) rfl #[.string (t220.extract 0 ((ji20) : Int).toNat)] rfl (by (try simp only [List.map_toArray, List.map_cons, List.map_nil]); first | done | (simp only [hji20]; rfl) | rfl | (simp only [List.length_drop, List.length_take]; rfl)) ?_; (with_reducible refine (impl_OpRead.calls kj4 (t220.extract 0 ((ji20) : Int).toNat) t223 t224 t225 t226 t227 false _ A23.out).mono ?_); rintro e w98 ⟨rfl, hb⟩; refine ⟨_, rfl, ?_⟩; replace BK219 := am (blk_below (zk BK219) hb); replace HB := am (below_step (zb HB) hb); (try clear hb); (try clear hb2); (try clear hk); (try clear hi)) | ((with_reducible refine gate_dst (N := 5) rfl ?_); refine bx 24 #[.int .i64 0, .string (⟨#[]⟩ : ByteArray), .string (⟨#[]⟩ : ByteArray), .int .i64 0, .string (⟨#[]⟩ : ByteArray)] ?_; intro gb229 hg w99 hbox hb; have BK229 := am (hbox); have GW229 := am (zn hg (zb HB)); have GE229 := am (zn hg (zb HB)); replace HB := am (below_step (zb HB) hb); have NB219_229 := am (zx hg (zk BK219)); have NB229_219 := am (zy hg (zk BK219)); replace BK219 := am (blk_below (zk BK219) hb); clear hb hbox hg; have hnb100 := NB229_219.out; have hnc100 := NB219_229.out; have hcz101_0 := ce0 BK229; have hcz101_1 := ce1 BK229; have hcz101_2 := ce2 BK229; have hcz101_3 := ce3 BK229; have hcz101_4 := ce4 BK229; have hfz101_0 := bfz BK229 0; have hfz101_1 := bfz BK229 1; have hfz101_2 := bfz BK229 2; have hfz101_3 := bfz BK229 3; have hfz101_4 := bfz BK229 4) | ((with_reducible refine gate_callee (f := 12) rfl ?_); refine goesL_ (some 42) rfl rfl Tryd.func12 (by kernel_rfl) rfl #[.string (t220 ++ (⟨#[32]⟩ : ByteArray))] rfl (by (try simp only [List.map_toArray, List.map_cons, List.map_nil]); first | done | rfl | (simp only [List.length_drop, List.length_take]; rfl)) ?_; (with_reducible refine (impl_OpRead.calls kj4 (t220 ++ (⟨#[32]⟩ : ByteArray)) t230 t231 t232 t233 t234 false _ A25.out).mono ?_); rintro e w102 ⟨rfl, hb⟩; refine ⟨_, rfl, ?_⟩; replace BK219 := am (blk_below (zk BK219) hb); replace BK229 := am (blk_below (g := gb229) (o := .cells #[.int .i64 t223, .string t224, .string t225, .int .i64 t226, .string t227] 24 (0, 0)) (zp BK229) hb); replace HB := am (below_step (zb HB) hb); (try clear hb); (try clear hb2); (try clear hk); (try clear hi)) | ((with_reducible refine gate_dst (N := 7) rfl ?_); refine bx 24 #[.int .i64 0, .string (⟨#[]⟩ : ByteArray), .string (⟨#[]⟩ : ByteArray), .int .i64 0, .string (⟨#[]⟩ : ByteArray)] ?_; intro gb236 hg w103 hbox hb; have BK236 := am (hbox); have GW236 := am (zn hg (zb HB)); have GE236 := am (zn hg (zb HB)); replace HB := am (below_step (zb HB) hb); have NB219_236 := am (zx hg (zk BK219)); have NB236_219 := am (zy hg (zk BK219)); replace BK219 := am (blk_below (zk BK219) hb); have NB229_236 := am (zx hg (zk BK229)); have NB236_229 := am (zy hg (zk BK229)); replace BK229 := am (blk_below (zk BK229) hb); clear hb hbox hg; have hnb104 := NB236_219.out; have hnc104 := NB219_236.out; have hnb105 := NB236_229.out; have hnc105 := NB229_236.out; have hcz106_0 := ce0 BK236; have hcz106_1 := ce1 BK236; have hcz106_2 := ce2 BK236; have hcz106_3 := ce3 BK236; have hcz106_4 := ce4 BK236; have hfz106_0 := bfz BK236 0; have hfz106_1 := bfz BK236 1; have hfz106_2 := bfz BK236 2; have hfz106_3 := bfz BK236 3; have hfz106_4 := bfz BK236 4) | ((with_reducible refine gate_callee (f := 12) rfl ?_); refine goesL_ (some 48) rfl rfl Tryd.func12 (by kernel_rfl) rfl #[.string ((⟨#[32]⟩ : ByteArray) ++ t220)] rfl (by (try simp only [List.map_toArray, List.map_cons, List.map_nil]); first | done | rfl | (simp only [List.length_drop, List.length_take]; rfl)) ?_; (with_reducible refine (impl_OpRead.calls kj4 ((⟨#[32]⟩ : ByteArray) ++ t220) t237 t238 t239 t240 t241 t242 _ A27.out).mono ?_); rintro e w107 ⟨rfl, hb⟩; refine ⟨_, rfl, ?_⟩; replace BK219 := am (blk_below (zk BK219) hb); replace BK229 := am (blk_below (zk BK229) hb); replace BK236 := am (blk_below (g := gb236) (o := .cells #[.int .i64 t230, .string t231, .string t232, .int .i64 t233, .string t234] 24 (0, 0)) (zp BK236) hb); replace HB := am (below_step (zb HB) hb); (try clear hb); (try clear hb2); (try clear hk); (try clear hi)) | ((with_reducible refine gate_dst (N := 9) rfl ?_); refine bx 24 #[.int .i64 0, .string (⟨#[]⟩ : ByteArray), .string (⟨#[]⟩ : ByteArray), .int .i64 0, .string (⟨#[]⟩ : ByteArray)] ?_; intro gb243 hg w108 hbox hb; have BK243 := am (hbox); have GW243 := am (zn hg (zb HB)); have GE243 := am (zn hg (zb HB)); replace HB := am (below_step (zb HB) hb); have NB219_243 := am (zx hg (zk BK219)); have NB243_219 := am (zy hg (zk BK219)); replace BK219 := am (blk_below (zk BK219) hb); have NB229_243 := am (zx hg (zk BK229)); have NB243_229 := am (zy hg (zk BK229)); replace BK229 := am (blk_below (zk BK229) hb); have NB236_243 := am (zx hg (zk BK236)); have NB243_236 := am (zy hg (zk BK236)); replace BK236 := am (blk_below (zk BK236) hb); clear hb hbox hg; have hnb109 := NB243_219.out; have hnc109 := NB219_243.out; have hnb110 := NB243_229.out; have hnc110 := NB229_243.out; have hnb111 := NB243_236.out; have hnc111 := NB236_243.out; have hcz112_0 := ce0 BK243; have hcz112_1 := ce1 BK243; have hcz112_2 := ce2 BK243; have hcz112_3 := ce3 BK243; have hcz112_4 := ce4 BK243; have hfz112_0 := bfz BK243 0; have hfz112_1 := bfz BK243 1; have hfz112_2 := bfz BK243 2; have hfz112_3 := bfz BK243 3; have hfz112_4 := bfz BK243 4))
    go_ret
    exact ⟨by first | exact zv | (simp only [← hji20]; exact zw), (zb HB)⟩
  subst c28
  have H1 : (if (!(t223 == t214) || (!(t224.toList == t215.toList) || (!(t225.toList == t216.toList) || (!(t226 == t217) || (!(t227.toList == t218.toList)))))) = true then (if t235 = true then (some false) else (some (!t242))) else (some false)) = some r := by rw [if_pos rfl] at H; exact H
  clear H
  have H := H1
  clear H1
  by_cases c29 : (!(t223 == t214) || (!(t224.toList == t215.toList) || (!(t225.toList == t216.toList) || (!(t226 == t217) || (!(t227.toList == t218.toList)))))) = true
  rotate_left
  · rw [if_neg c29] at H
    have c29b0 : (!(t223 == t214) || (!(t224.toList == t215.toList) || (!(t225.toList == t216.toList) || (!(t226 == t217) || (!(t227.toList == t218.toList)))))) = false := by simpa using c29
    clear c29
    obtain rfl := Option.some.inj H
    go_wp2_with (first | ((with_reducible refine gate_callee (f := 12) rfl ?_); refine goesL_ (some 36) rfl rfl Tryd.func12 (by kernel_rfl) rfl #[.string (t220.extract 0 ((ji20) : Int).toNat)] rfl (by (try simp only [List.map_toArray, List.map_cons, List.map_nil]); first | done | (simp only [hji20]; rfl) | rfl | (simp only [List.length_drop, List.length_take]; rfl)) ?_; (with_reducible refine (impl_OpRead.calls kj4 (t220.extract 0 ((ji20) : Int).toNat) t223 t224 t225 t226 t227 true _ A23.out).mono ?_); rintro e w65 ⟨rfl, hb⟩; refine ⟨_, rfl, ?_⟩; replace BK219 := am (blk_below (zk BK219) hb); replace HB := am (below_step (zb HB) hb); (try clear hb); (try clear hb2); (try clear hk); (try clear hi)) | ((with_reducible refine gate_dst (N := 5) rfl ?_); refine bx 24 #[.int .i64 0, .string (⟨#[]⟩ : ByteArray), .string (⟨#[]⟩ : ByteArray), .int .i64 0, .string (⟨#[]⟩ : ByteArray)] ?_; intro gb229 hg w66 hbox hb; have BK229 := am (hbox); have GW229 := am (zn hg (zb HB)); have GE229 := am (zn hg (zb HB)); replace HB := am (below_step (zb HB) hb); have NB219_229 := am (zx hg (zk BK219)); have NB229_219 := am (zy hg (zk BK219)); replace BK219 := am (blk_below (zk BK219) hb); clear hb hbox hg; have hnb67 := NB229_219.out; have hnc67 := NB219_229.out; have hcz68_0 := ce0 BK229; have hcz68_1 := ce1 BK229; have hcz68_2 := ce2 BK229; have hcz68_3 := ce3 BK229; have hcz68_4 := ce4 BK229; have hfz68_0 := bfz BK229 0; have hfz68_1 := bfz BK229 1; have hfz68_2 := bfz BK229 2; have hfz68_3 := bfz BK229 3; have hfz68_4 := bfz BK229 4) | ((with_reducible refine gate_callee (f := 12) rfl ?_); refine goesL_ (some 42) rfl rfl Tryd.func12 (by kernel_rfl) rfl #[.string (t220 ++ (⟨#[32]⟩ : ByteArray))] rfl (by (try simp only [List.map_toArray, List.map_cons, List.map_nil]); first | done | rfl | (simp only [List.length_drop, List.length_take]; rfl)) ?_; (with_reducible refine (impl_OpRead.calls kj4 (t220 ++ (⟨#[32]⟩ : ByteArray)) t230 t231 t232 t233 t234 t235 _ A25.out).mono ?_); rintro e w69 ⟨rfl, hb⟩; refine ⟨_, rfl, ?_⟩; replace BK219 := am (blk_below (zk BK219) hb); replace BK229 := am (blk_below (g := gb229) (o := .cells #[.int .i64 t223, .string t224, .string t225, .int .i64 t226, .string t227] 24 (0, 0)) (zp BK229) hb); replace HB := am (below_step (zb HB) hb); (try clear hb); (try clear hb2); (try clear hk); (try clear hi)) | ((with_reducible refine gate_dst (N := 7) rfl ?_); refine bx 24 #[.int .i64 0, .string (⟨#[]⟩ : ByteArray), .string (⟨#[]⟩ : ByteArray), .int .i64 0, .string (⟨#[]⟩ : ByteArray)] ?_; intro gb236 hg w70 hbox hb; have BK236 := am (hbox); have GW236 := am (zn hg (zb HB)); have GE236 := am (zn hg (zb HB)); replace HB := am (below_step (zb HB) hb); have NB219_236 := am (zx hg (zk BK219)); have NB236_219 := am (zy hg (zk BK219)); replace BK219 := am (blk_below (zk BK219) hb); have NB229_236 := am (zx hg (zk BK229)); have NB236_229 := am (zy hg (zk BK229)); replace BK229 := am (blk_below (zk BK229) hb); clear hb hbox hg; have hnb71 := NB236_219.out; have hnc71 := NB219_236.out; have hnb72 := NB236_229.out; have hnc72 := NB229_236.out; have hcz73_0 := ce0 BK236; have hcz73_1 := ce1 BK236; have hcz73_2 := ce2 BK236; have hcz73_3 := ce3 BK236; have hcz73_4 := ce4 BK236; have hfz73_0 := bfz BK236 0; have hfz73_1 := bfz BK236 1; have hfz73_2 := bfz BK236 2; have hfz73_3 := bfz BK236 3; have hfz73_4 := bfz BK236 4) | ((with_reducible refine gate_callee (f := 12) rfl ?_); refine goesL_ (some 48) rfl rfl Tryd.func12 (by kernel_rfl) rfl #[.string ((⟨#[32]⟩ : ByteArray) ++ t220)] rfl (by (try simp only [List.map_toArray, List.map_cons, List.map_nil]); first | done | rfl | (simp only [List.length_drop, List.length_take]; rfl)) ?_; (with_reducible refine (impl_OpRead.calls kj4 ((⟨#[32]⟩ : ByteArray) ++ t220) t237 t238 t239 t240 t241 t242 _ A27.out).mono ?_); rintro e w74 ⟨rfl, hb⟩; refine ⟨_, rfl, ?_⟩; replace BK219 := am (blk_below (zk BK219) hb); replace BK229 := am (blk_below (zk BK229) hb); replace BK236 := am (blk_below (g := gb236) (o := .cells #[.int .i64 t230, .string t231, .string t232, .int .i64 t233, .string t234] 24 (0, 0)) (zp BK236) hb); replace HB := am (below_step (zb HB) hb); (try clear hb); (try clear hb2); (try clear hk); (try clear hi)) | ((with_reducible refine gate_dst (N := 9) rfl ?_); refine bx 24 #[.int .i64 0, .string (⟨#[]⟩ : ByteArray), .string (⟨#[]⟩ : ByteArray), .int .i64 0, .string (⟨#[]⟩ : ByteArray)] ?_; intro gb243 hg w75 hbox hb; have BK243 := am (hbox); have GW243 := am (zn hg (zb HB)); have GE243 := am (zn hg (zb HB)); replace HB := am (below_step (zb HB) hb); have NB219_243 := am (zx hg (zk BK219)); have NB243_219 := am (zy hg (zk BK219)); replace BK219 := am (blk_below (zk BK219) hb); have NB229_243 := am (zx hg (zk BK229)); have NB243_229 := am (zy hg (zk BK229)); replace BK229 := am (blk_below (zk BK229) hb); have NB236_243 := am (zx hg (zk BK236)); have NB243_236 := am (zy hg (zk BK236)); replace BK236 := am (blk_below (zk BK236) hb); clear hb hbox hg; have hnb76 := NB243_219.out; have hnc76 := NB219_243.out; have hnb77 := NB243_229.out; have hnc77 := NB229_243.out; have hnb78 := NB243_236.out; have hnc78 := NB236_243.out; have hcz79_0 := ce0 BK243; have hcz79_1 := ce1 BK243; have hcz79_2 := ce2 BK243; have hcz79_3 := ce3 BK243; have hcz79_4 := ce4 BK243; have hfz79_0 := bfz BK243 0; have hfz79_1 := bfz BK243 1; have hfz79_2 := bfz BK243 2; have hfz79_3 := bfz BK243 3; have hfz79_4 := bfz BK243 4; have hcz80_0 := ce0 BK229; have hcz80_1 := ce1 BK229; have hcz80_2 := ce2 BK229; have hcz80_3 := ce3 BK229; have hcz80_4 := ce4 BK229; have hfz80_0 := bfz BK229 0; have hfz80_1 := bfz BK229 1; have hfz80_2 := bfz BK229 2; have hfz80_3 := bfz BK229 3; have hfz80_4 := bfz BK229 4; have hcz81_0 := ce0 BK219; have hcz81_1 := ce1 BK219; have hcz81_2 := ce2 BK219; have hcz81_3 := ce3 BK219; have hcz81_4 := ce4 BK219; have hfz81_0 := bfz BK219 0; have hfz81_1 := bfz BK219 1; have hfz81_2 := bfz BK219 2; have hfz81_3 := bfz BK219 3; have hfz81_4 := bfz BK219 4))
    go_ret
    exact ⟨by first | exact zv | (simp only [← hji20]; exact zw), (zb HB)⟩
  rw [if_pos c29] at H
  have c29b0 : (!(t223 == t214) || (!(t224.toList == t215.toList) || (!(t225.toList == t216.toList) || (!(t226 == t217) || (!(t227.toList == t218.toList)))))) = true := c29
  clear c29
  by_cases c30 : t235 = true
  · subst c30
    have H1 : (some false) = some r := by rw [if_pos rfl] at H; exact H
    clear H
    have H := H1
    clear H1
    obtain rfl := Option.some.inj H
    go_wp2_with (first | ((with_reducible refine gate_callee (f := 12) rfl ?_); refine goesL_ (some 36) rfl rfl Tryd.func12 (by kernel_rfl) rfl #[.string (t220.extract 0 ((ji20) : Int).toNat)] rfl (by (try simp only [List.map_toArray, List.map_cons, List.map_nil]); first | done | (simp only [hji20]; rfl) | rfl | (simp only [List.length_drop, List.length_take]; rfl)) ?_; (with_reducible refine (impl_OpRead.calls kj4 (t220.extract 0 ((ji20) : Int).toNat) t223 t224 t225 t226 t227 true _ A23.out).mono ?_); rintro e w31 ⟨rfl, hb⟩; refine ⟨_, rfl, ?_⟩; replace BK219 := am (blk_below (zk BK219) hb); replace HB := am (below_step (zb HB) hb); (try clear hb); (try clear hb2); (try clear hk); (try clear hi)) | ((with_reducible refine gate_dst (N := 5) rfl ?_); refine bx 24 #[.int .i64 0, .string (⟨#[]⟩ : ByteArray), .string (⟨#[]⟩ : ByteArray), .int .i64 0, .string (⟨#[]⟩ : ByteArray)] ?_; intro gb229 hg w32 hbox hb; have BK229 := am (hbox); have GW229 := am (zn hg (zb HB)); have GE229 := am (zn hg (zb HB)); replace HB := am (below_step (zb HB) hb); have NB219_229 := am (zx hg (zk BK219)); have NB229_219 := am (zy hg (zk BK219)); replace BK219 := am (blk_below (zk BK219) hb); clear hb hbox hg; have hnb33 := NB229_219.out; have hnc33 := NB219_229.out; have hcz34_0 := ce0 BK229; have hcz34_1 := ce1 BK229; have hcz34_2 := ce2 BK229; have hcz34_3 := ce3 BK229; have hcz34_4 := ce4 BK229; have hfz34_0 := bfz BK229 0; have hfz34_1 := bfz BK229 1; have hfz34_2 := bfz BK229 2; have hfz34_3 := bfz BK229 3; have hfz34_4 := bfz BK229 4) | ((with_reducible refine gate_callee (f := 12) rfl ?_); refine goesL_ (some 42) rfl rfl Tryd.func12 (by kernel_rfl) rfl #[.string (t220 ++ (⟨#[32]⟩ : ByteArray))] rfl (by (try simp only [List.map_toArray, List.map_cons, List.map_nil]); first | done | rfl | (simp only [List.length_drop, List.length_take]; rfl)) ?_; (with_reducible refine (impl_OpRead.calls kj4 (t220 ++ (⟨#[32]⟩ : ByteArray)) t230 t231 t232 t233 t234 true _ A25.out).mono ?_); rintro e w35 ⟨rfl, hb⟩; refine ⟨_, rfl, ?_⟩; replace BK219 := am (blk_below (zk BK219) hb); replace BK229 := am (blk_below (g := gb229) (o := .cells #[.int .i64 t223, .string t224, .string t225, .int .i64 t226, .string t227] 24 (0, 0)) (zp BK229) hb); replace HB := am (below_step (zb HB) hb); (try clear hb); (try clear hb2); (try clear hk); (try clear hi)) | ((with_reducible refine gate_dst (N := 7) rfl ?_); refine bx 24 #[.int .i64 0, .string (⟨#[]⟩ : ByteArray), .string (⟨#[]⟩ : ByteArray), .int .i64 0, .string (⟨#[]⟩ : ByteArray)] ?_; intro gb236 hg w36 hbox hb; have BK236 := am (hbox); have GW236 := am (zn hg (zb HB)); have GE236 := am (zn hg (zb HB)); replace HB := am (below_step (zb HB) hb); have NB219_236 := am (zx hg (zk BK219)); have NB236_219 := am (zy hg (zk BK219)); replace BK219 := am (blk_below (zk BK219) hb); have NB229_236 := am (zx hg (zk BK229)); have NB236_229 := am (zy hg (zk BK229)); replace BK229 := am (blk_below (zk BK229) hb); clear hb hbox hg; have hnb37 := NB236_219.out; have hnc37 := NB219_236.out; have hnb38 := NB236_229.out; have hnc38 := NB229_236.out; have hcz39_0 := ce0 BK236; have hcz39_1 := ce1 BK236; have hcz39_2 := ce2 BK236; have hcz39_3 := ce3 BK236; have hcz39_4 := ce4 BK236; have hfz39_0 := bfz BK236 0; have hfz39_1 := bfz BK236 1; have hfz39_2 := bfz BK236 2; have hfz39_3 := bfz BK236 3; have hfz39_4 := bfz BK236 4) | ((with_reducible refine gate_callee (f := 12) rfl ?_); refine goesL_ (some 48) rfl rfl Tryd.func12 (by kernel_rfl) rfl #[.string ((⟨#[32]⟩ : ByteArray) ++ t220)] rfl (by (try simp only [List.map_toArray, List.map_cons, List.map_nil]); first | done | rfl | (simp only [List.length_drop, List.length_take]; rfl)) ?_; (with_reducible refine (impl_OpRead.calls kj4 ((⟨#[32]⟩ : ByteArray) ++ t220) t237 t238 t239 t240 t241 t242 _ A27.out).mono ?_); rintro e w40 ⟨rfl, hb⟩; refine ⟨_, rfl, ?_⟩; replace BK219 := am (blk_below (zk BK219) hb); replace BK229 := am (blk_below (zk BK229) hb); replace BK236 := am (blk_below (g := gb236) (o := .cells #[.int .i64 t230, .string t231, .string t232, .int .i64 t233, .string t234] 24 (0, 0)) (zp BK236) hb); replace HB := am (below_step (zb HB) hb); (try clear hb); (try clear hb2); (try clear hk); (try clear hi)) | ((with_reducible refine gate_dst (N := 9) rfl ?_); refine bx 24 #[.int .i64 0, .string (⟨#[]⟩ : ByteArray), .string (⟨#[]⟩ : ByteArray), .int .i64 0, .string (⟨#[]⟩ : ByteArray)] ?_; intro gb243 hg w41 hbox hb; have BK243 := am (hbox); have GW243 := am (zn hg (zb HB)); have GE243 := am (zn hg (zb HB)); replace HB := am (below_step (zb HB) hb); have NB219_243 := am (zx hg (zk BK219)); have NB243_219 := am (zy hg (zk BK219)); replace BK219 := am (blk_below (zk BK219) hb); have NB229_243 := am (zx hg (zk BK229)); have NB243_229 := am (zy hg (zk BK229)); replace BK229 := am (blk_below (zk BK229) hb); have NB236_243 := am (zx hg (zk BK236)); have NB243_236 := am (zy hg (zk BK236)); replace BK236 := am (blk_below (zk BK236) hb); clear hb hbox hg; have hnb42 := NB243_219.out; have hnc42 := NB219_243.out; have hnb43 := NB243_229.out; have hnc43 := NB229_243.out; have hnb44 := NB243_236.out; have hnc44 := NB236_243.out; have hcz45_0 := ce0 BK243; have hcz45_1 := ce1 BK243; have hcz45_2 := ce2 BK243; have hcz45_3 := ce3 BK243; have hcz45_4 := ce4 BK243; have hfz45_0 := bfz BK243 0; have hfz45_1 := bfz BK243 1; have hfz45_2 := bfz BK243 2; have hfz45_3 := bfz BK243 3; have hfz45_4 := bfz BK243 4; have hcz46_0 := ce0 BK229; have hcz46_1 := ce1 BK229; have hcz46_2 := ce2 BK229; have hcz46_3 := ce3 BK229; have hcz46_4 := ce4 BK229; have hfz46_0 := bfz BK229 0; have hfz46_1 := bfz BK229 1; have hfz46_2 := bfz BK229 2; have hfz46_3 := bfz BK229 3; have hfz46_4 := bfz BK229 4; have hcz47_0 := ce0 BK219; have hcz47_1 := ce1 BK219; have hcz47_2 := ce2 BK219; have hcz47_3 := ce3 BK219; have hcz47_4 := ce4 BK219; have hfz47_0 := bfz BK219 0; have hfz47_1 := bfz BK219 1; have hfz47_2 := bfz BK219 2; have hfz47_3 := bfz BK219 3; have hfz47_4 := bfz BK219 4))
    go_ret
    exact ⟨by first | exact zv | (simp only [← hji20]; exact zw), (zb HB)⟩
  replace c30 := Bool.eq_false_iff.mpr c30
  subst c30
  have H1 : (some (!t242)) = some r := by rw [if_neg (show ¬ (false = true) by decide)] at H; exact H
  clear H
  have H := H1
  clear H1
  obtain rfl := Option.some.inj H
  go_wp2_with (first | ((with_reducible refine gate_callee (f := 12) rfl ?_); refine goesL_ (some 36) rfl rfl Tryd.func12 (by kernel_rfl) rfl #[.string (t220.extract 0 ((ji20) : Int).toNat)] rfl (by (try simp only [List.map_toArray, List.map_cons, List.map_nil]); first | done | (simp only [hji20]; rfl) | rfl | (simp only [List.length_drop, List.length_take]; rfl)) ?_; (with_reducible refine (impl_OpRead.calls kj4 (t220.extract 0 ((ji20) : Int).toNat) t223 t224 t225 t226 t227 true _ A23.out).mono ?_); rintro e w48 ⟨rfl, hb⟩; refine ⟨_, rfl, ?_⟩; replace BK219 := am (blk_below (zk BK219) hb); replace HB := am (below_step (zb HB) hb); (try clear hb); (try clear hb2); (try clear hk); (try clear hi)) | ((with_reducible refine gate_dst (N := 5) rfl ?_); refine bx 24 #[.int .i64 0, .string (⟨#[]⟩ : ByteArray), .string (⟨#[]⟩ : ByteArray), .int .i64 0, .string (⟨#[]⟩ : ByteArray)] ?_; intro gb229 hg w49 hbox hb; have BK229 := am (hbox); have GW229 := am (zn hg (zb HB)); have GE229 := am (zn hg (zb HB)); replace HB := am (below_step (zb HB) hb); have NB219_229 := am (zx hg (zk BK219)); have NB229_219 := am (zy hg (zk BK219)); replace BK219 := am (blk_below (zk BK219) hb); clear hb hbox hg; have hnb50 := NB229_219.out; have hnc50 := NB219_229.out; have hcz51_0 := ce0 BK229; have hcz51_1 := ce1 BK229; have hcz51_2 := ce2 BK229; have hcz51_3 := ce3 BK229; have hcz51_4 := ce4 BK229; have hfz51_0 := bfz BK229 0; have hfz51_1 := bfz BK229 1; have hfz51_2 := bfz BK229 2; have hfz51_3 := bfz BK229 3; have hfz51_4 := bfz BK229 4) | ((with_reducible refine gate_callee (f := 12) rfl ?_); refine goesL_ (some 42) rfl rfl Tryd.func12 (by kernel_rfl) rfl #[.string (t220 ++ (⟨#[32]⟩ : ByteArray))] rfl (by (try simp only [List.map_toArray, List.map_cons, List.map_nil]); first | done | rfl | (simp only [List.length_drop, List.length_take]; rfl)) ?_; (with_reducible refine (impl_OpRead.calls kj4 (t220 ++ (⟨#[32]⟩ : ByteArray)) t230 t231 t232 t233 t234 false _ A25.out).mono ?_); rintro e w52 ⟨rfl, hb⟩; refine ⟨_, rfl, ?_⟩; replace BK219 := am (blk_below (zk BK219) hb); replace BK229 := am (blk_below (g := gb229) (o := .cells #[.int .i64 t223, .string t224, .string t225, .int .i64 t226, .string t227] 24 (0, 0)) (zp BK229) hb); replace HB := am (below_step (zb HB) hb); (try clear hb); (try clear hb2); (try clear hk); (try clear hi)) | ((with_reducible refine gate_dst (N := 7) rfl ?_); refine bx 24 #[.int .i64 0, .string (⟨#[]⟩ : ByteArray), .string (⟨#[]⟩ : ByteArray), .int .i64 0, .string (⟨#[]⟩ : ByteArray)] ?_; intro gb236 hg w53 hbox hb; have BK236 := am (hbox); have GW236 := am (zn hg (zb HB)); have GE236 := am (zn hg (zb HB)); replace HB := am (below_step (zb HB) hb); have NB219_236 := am (zx hg (zk BK219)); have NB236_219 := am (zy hg (zk BK219)); replace BK219 := am (blk_below (zk BK219) hb); have NB229_236 := am (zx hg (zk BK229)); have NB236_229 := am (zy hg (zk BK229)); replace BK229 := am (blk_below (zk BK229) hb); clear hb hbox hg; have hnb54 := NB236_219.out; have hnc54 := NB219_236.out; have hnb55 := NB236_229.out; have hnc55 := NB229_236.out; have hcz56_0 := ce0 BK236; have hcz56_1 := ce1 BK236; have hcz56_2 := ce2 BK236; have hcz56_3 := ce3 BK236; have hcz56_4 := ce4 BK236; have hfz56_0 := bfz BK236 0; have hfz56_1 := bfz BK236 1; have hfz56_2 := bfz BK236 2; have hfz56_3 := bfz BK236 3; have hfz56_4 := bfz BK236 4) | ((with_reducible refine gate_callee (f := 12) rfl ?_); refine goesL_ (some 48) rfl rfl Tryd.func12 (by kernel_rfl) rfl #[.string ((⟨#[32]⟩ : ByteArray) ++ t220)] rfl (by (try simp only [List.map_toArray, List.map_cons, List.map_nil]); first | done | rfl | (simp only [List.length_drop, List.length_take]; rfl)) ?_; (with_reducible refine (impl_OpRead.calls kj4 ((⟨#[32]⟩ : ByteArray) ++ t220) t237 t238 t239 t240 t241 t242 _ A27.out).mono ?_); rintro e w57 ⟨rfl, hb⟩; refine ⟨_, rfl, ?_⟩; replace BK219 := am (blk_below (zk BK219) hb); replace BK229 := am (blk_below (zk BK229) hb); replace BK236 := am (blk_below (g := gb236) (o := .cells #[.int .i64 t230, .string t231, .string t232, .int .i64 t233, .string t234] 24 (0, 0)) (zp BK236) hb); replace HB := am (below_step (zb HB) hb); (try clear hb); (try clear hb2); (try clear hk); (try clear hi)) | ((with_reducible refine gate_dst (N := 9) rfl ?_); refine bx 24 #[.int .i64 0, .string (⟨#[]⟩ : ByteArray), .string (⟨#[]⟩ : ByteArray), .int .i64 0, .string (⟨#[]⟩ : ByteArray)] ?_; intro gb243 hg w58 hbox hb; have BK243 := am (hbox); have GW243 := am (zn hg (zb HB)); have GE243 := am (zn hg (zb HB)); replace HB := am (below_step (zb HB) hb); have NB219_243 := am (zx hg (zk BK219)); have NB243_219 := am (zy hg (zk BK219)); replace BK219 := am (blk_below (zk BK219) hb); have NB229_243 := am (zx hg (zk BK229)); have NB243_229 := am (zy hg (zk BK229)); replace BK229 := am (blk_below (zk BK229) hb); have NB236_243 := am (zx hg (zk BK236)); have NB243_236 := am (zy hg (zk BK236)); replace BK236 := am (blk_below (zk BK236) hb); clear hb hbox hg; have hnb59 := NB243_219.out; have hnc59 := NB219_243.out; have hnb60 := NB243_229.out; have hnc60 := NB229_243.out; have hnb61 := NB243_236.out; have hnc61 := NB236_243.out; have hcz62_0 := ce0 BK243; have hcz62_1 := ce1 BK243; have hcz62_2 := ce2 BK243; have hcz62_3 := ce3 BK243; have hcz62_4 := ce4 BK243; have hfz62_0 := bfz BK243 0; have hfz62_1 := bfz BK243 1; have hfz62_2 := bfz BK243 2; have hfz62_3 := bfz BK243 3; have hfz62_4 := bfz BK243 4; have hcz63_0 := ce0 BK229; have hcz63_1 := ce1 BK229; have hcz63_2 := ce2 BK229; have hcz63_3 := ce3 BK229; have hcz63_4 := ce4 BK229; have hfz63_0 := bfz BK229 0; have hfz63_1 := bfz BK229 1; have hfz63_2 := bfz BK229 2; have hfz63_3 := bfz BK229 3; have hfz63_4 := bfz BK229 4; have hcz64_0 := ce0 BK219; have hcz64_1 := ce1 BK219; have hcz64_2 := ce2 BK219; have hcz64_3 := ce3 BK219; have hcz64_4 := ce4 BK219; have hfz64_0 := bfz BK219 0; have hfz64_1 := bfz BK219 1; have hfz64_2 := bfz BK219 2; have hfz64_3 := bfz BK219 3; have hfz64_4 := bfz BK219 4))
  go_ret
  exact ⟨by first | exact zv | (simp only [← hji20]; exact zw), (zb HB)⟩
/-- THE ONE PURE STATEMENT of laws_FnOpCut: yours. -/
def laws_FnOpCut.Pure : Prop := ∀ (l0 : List Int), l0.length ≤ maxLen → l0.length * 1 ≤ 140737488351232 → (∀ x ∈ l0, (Lit.int .u8 x).wf = true) → ∃ k, laws_FnOpCut.f k l0 = some true
theorem laws_FnOpCut.walk (P : laws_FnOpCut.Pure) (a0 : Option Addr) (len0 cap0 : Nat) (z0 : List Int) (w : World) (w0 : (a0 = none ∧ len0 = 0 ∧ cap0 = 0 ∧ z0 = []) ∨ ∃ x, a0 = some x ∧ len0 ≤ cap0 ∧ cap0 ≤ maxLen ∧ z0.length = cap0 ∧ (∀ i, i < z0.length → w.cell? (x.add i) = some (.int .u8 (z0.getD i 0))) ∧ ∀ n ∈ z0, (Lit.int .u8 n).wf = true) (y0 : len0 * 1 ≤ 140737488351232) (hW : ROK w) :
 Calls Tryd.prog 3 #[.slice a0 len0 cap0] w fun e w' => e = .returned (.bool true) ∧ Below w.heap.size w w' := by
 obtain ⟨l0, rfl, hr0, hm0, hw0, hc0⟩ := ReadsInt.ofRowC w0
 obtain ⟨k, h⟩ := P l0 hm0 y0 hw0
 refine (laws_FnOpCut.calls k _ _ l0 true w (Kd.C_of_reads (d := (0 : Int)) (h1 := fun _ => rfl) hr0) hc0 h hW).mono ?_
 rintro e w' ⟨rfl, hd⟩
 exact ⟨rfl, hd⟩
end Go.Proofs.YtagfiehoodepbaaDoor.PFnOpCut
