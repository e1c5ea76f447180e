/- The walk: each function that the law comes to as a plain Lean function, and a proof that the Go code answers so. Written by this session's program over the kit's printer. -/
import Derived.Test.YtagfiehoodepbaaDoorZ
import Derived.Test.YtagfiehoodepbaaDoorQFnOpBack0
import Derived.Test.YtagfiehoodepbaaDoorQFnOpBack1
import Derived.Test.YtagfiehoodepbaaDoorQFnOpBack3
import Derived.Test.YtagfiehoodepbaaDoorQFnOpBack4
import Derived.Test.YtagfiehoodepbaaDoorQFnOpBack6
import Derived.Test.YtagfiehoodepbaaDoorQFnOpBack7
namespace Go.Proofs.YtagfiehoodepbaaDoor.PFnOpBack
open Go.RowKit Go.Proofs.YtagfiehoodepbaaDoorW.PrintWords Go.Proofs.YtagfiehoodepbaaDoorW.PrintLast Go.Proofs.YtagfiehoodepbaaDoorW.PrintMore
attribute [local go_sem] max2_int min2_int max_two min_two max_three min_three max_four min_four   -- for this text's walks alone
set_option linter.unusedVariables false
set_option linter.unusedSimpArgs false
attribute [local go_sem high] eqA24
/-! ### laws_FnOpBack: function 8 -/
def laws_FnOpBack.j0 : Nat → ByteArray → Bool → Int → ByteArray → ByteArray → Int → ByteArray → Option (Bool)
 | 0, _, _, _, _, _, _, _ => none
 | k + 1, x4, x21, x220000, x220001, x220002, x220003, x220004 => if x21 = true then ((spec_OpText.f k x220000 x220001 x220002 x220003 x220004).bind fun t222 => (some (x4.toList == t222.toList))) else ((impl_OpRead.f k x4).bind fun bt223 => (if bt223.2.2.2.2.2 = true then (if (bt223.1 == x220000 && (bt223.2.1.toList == x220001.toList && (bt223.2.2.1.toList == x220002.toList && (bt223.2.2.2.1 == x220003 && (bt223.2.2.2.2.1.toList == x220004.toList))))) = true then ((impl_OpOk.f k x220000 x220001 x220002 x220003 x220004).bind fun t230 => (some t230)) else (some false)) else (some false)))
def laws_FnOpBack.f (k : Nat) (l0 : List Int) : Option (Bool) := if (l0.length : Int) > 1048576 then (some true) else ((spec_DrawOpText.f k l0).bind fun bt214 => ((impl_OpText.f k bt214.1 bt214.2.1 bt214.2.2.1 bt214.2.2.2.1 bt214.2.2.2.2).bind fun t220 => ((spec_OpText.f k bt214.1 bt214.2.1 bt214.2.2.1 bt214.2.2.2.1 bt214.2.2.2.2).bind fun t221 => (if t220.toList = t221.toList then (laws_FnOpBack.j0 k t220 (t220.toList == ([] : List UInt8)) bt214.1 bt214.2.1 bt214.2.2.1 bt214.2.2.2.1 bt214.2.2.2.2) else (laws_FnOpBack.j0 k t220 true bt214.1 bt214.2.1 bt214.2.2.1 bt214.2.2.2.1 bt214.2.2.2.2)))))
theorem laws_FnOpBack.mono_l : ∀ k, (∀ y0 y1 y2 y3 y4 y5 y6, LeO (laws_FnOpBack.j0 k y0 y1 y2 y3 y4 y5 y6) (laws_FnOpBack.j0 (k + 1) y0 y1 y2 y3 y4 y5 y6))
 | 0 => fun _ _ _ _ _ _ _ r h => by simp [laws_FnOpBack.j0] at h
 | k + 1 => by
  have ih0 := laws_FnOpBack.mono_l k
  intro y0 y1 y2 y3 y4 y5 y6
  unfold laws_FnOpBack.j0
  repeat' first
  | (with_reducible exact ih0 _ _ _ _ _ _ _)
  | (with_reducible exact impl_OpOk.mono _ _ _ _ _ _)
  | (with_reducible exact impl_OpRead.mono _ _)
  | (with_reducible exact impl_OpText.mono _ _ _ _ _ _)
  | (with_reducible exact spec_DrawOpText.mono _ _)
  | (with_reducible exact spec_OpText.mono _ _ _ _ _ _)
  | (with_reducible exact LeO.refl _)
  | (with_reducible exact LeO.none _)
  | (with_reducible refine LeO.ite ?_ ?_)
  | (with_reducible refine LeO.bind ?_ (fun _ => ?_))
  | exact ih0 _ _ _ _ _ _ _
  | exact impl_OpOk.mono _ _ _ _ _ _
  | exact impl_OpRead.mono _ _
  | exact impl_OpText.mono _ _ _ _ _ _
  | exact spec_DrawOpText.mono _ _
  | exact spec_OpText.mono _ _ _ _ _ _
  | exact LeO.none _
  | refine LeO.ite ?_ ?_
  | refine LeO.bind ?_ (fun _ => ?_)
theorem laws_FnOpBack.mono : ∀ a0 k, LeO (laws_FnOpBack.f k a0) (laws_FnOpBack.f (k + 1) a0) := by
 intro a0 k
 have ih0 := laws_FnOpBack.mono_l k
 unfold laws_FnOpBack.f
 repeat' first
  | (with_reducible exact ih0 _ _ _ _ _ _ _)
  | (with_reducible exact impl_OpOk.mono _ _ _ _ _ _)
  | (with_reducible exact impl_OpRead.mono _ _)
  | (with_reducible exact impl_OpText.mono _ _ _ _ _ _)
  | (with_reducible exact spec_DrawOpText.mono _ _)
  | (with_reducible exact spec_OpText.mono _ _ _ _ _ _)
  | (with_reducible exact LeO.refl _)
  | (with_reducible exact LeO.none _)
  | (with_reducible refine LeO.ite ?_ ?_)
  | (with_reducible refine LeO.bind ?_ (fun _ => ?_))
  | exact ih0 _ _ _ _ _ _ _
  | exact impl_OpOk.mono _ _ _ _ _ _
  | exact impl_OpRead.mono _ _
  | exact impl_OpText.mono _ _ _ _ _ _
  | exact spec_DrawOpText.mono _ _
  | exact spec_OpText.mono _ _ _ _ _ _
  | exact LeO.none _
  | refine LeO.ite ?_ ?_
  | refine LeO.bind ?_ (fun _ => ?_)
set_option maxHeartbeats 8000000 in
set_option maxRecDepth 100000 in
theorem laws_FnOpBack.calls (k : Nat) (A0 : Option Addr) (c0 : Nat) (l0 : List Int) (r : Bool) (w : World) (hr0 : Kd.C (Kd.int .u8) w A0 l0.length l0) (hc0 : l0.length ≤ c0) (h : laws_FnOpBack.f k l0 = some r) (hW : ROK w) :
 Calls Tryd.prog 8 #[.slice A0 l0.length c0] w fun e w' => e = .returned (.bool r) ∧ Below w.heap.size w w' := by
 have HW_ := am hW
 clear hW
 have hu24 := Tryd.underlying24
 have HR0 := am hr0
 have HC0 := am hc0
 clear hr0 hc0
 have HB := am (Below.refl w.heap.size w)
 have H : (if (l0.length : Int) > 1048576 then (some true) else ((spec_DrawOpText.f k l0).bind fun bt214 => ((impl_OpText.f k bt214.1 bt214.2.1 bt214.2.2.1 bt214.2.2.2.1 bt214.2.2.2.2).bind fun t220 => ((spec_OpText.f k bt214.1 bt214.2.1 bt214.2.2.1 bt214.2.2.2.1 bt214.2.2.2.2).bind fun t221 => (if t220.toList = t221.toList then (laws_FnOpBack.j0 k t220 (t220.toList == ([] : List UInt8)) bt214.1 bt214.2.1 bt214.2.2.1 bt214.2.2.2.1 bt214.2.2.2.2) else (laws_FnOpBack.j0 k t220 true bt214.1 bt214.2.1 bt214.2.2.1 bt214.2.2.2.1 bt214.2.2.2.2)))))) = some r := h
 clear h
 by_cases c2 : (l0.length : Int) > 1048576
 · rw [if_pos c2] at H
   have c2b0 : decide (1048576 < (l0.length : Int)) = true := decide_eq_true c2
   have c2b1 : decide (1048576 < l0.length) = true := decide_eq_true (by omega)
   clear c2
   obtain rfl := Option.some.inj H
   go_enter Tryd.func8, Tryd.ntmps8
   go_wp2
   go_ret
   exact ⟨zv, (zb HB)⟩
 rw [if_neg c2] at H
 have c2b0 : decide (1048576 < (l0.length : Int)) = false := decide_eq_false c2
 have c2b1 : decide (1048576 < l0.length) = false := decide_eq_false (by omega)
 clear c2
 replace H := obs H
 obtain ⟨⟨t214, t215, t216, t217, t218⟩, A30, H⟩ := H
 replace H : ((impl_OpText.f k t214 t215 t216 t217 t218).bind fun t220 => ((spec_OpText.f k t214 t215 t216 t217 t218).bind fun t221 => (if t220.toList = t221.toList then (laws_FnOpBack.j0 k t220 (t220.toList == ([] : List UInt8)) t214 t215 t216 t217 t218) else (laws_FnOpBack.j0 k t220 true t214 t215 t216 t217 t218)))) = some r := H
 have A3 := am A30
 clear A30
 replace H := obs H
 obtain ⟨t220, A40, H⟩ := H
 replace H : ((spec_OpText.f k t214 t215 t216 t217 t218).bind fun t221 => (if t220.toList = t221.toList then (laws_FnOpBack.j0 k t220 (t220.toList == ([] : List UInt8)) t214 t215 t216 t217 t218) else (laws_FnOpBack.j0 k t220 true t214 t215 t216 t217 t218))) = some r := H
 have A4 := am A40
 clear A40
 have HC5 := am H
 clear H
 go_enter Tryd.func8, Tryd.ntmps8
 go_upto_region 5 with (first | ((with_reducible refine gate_callee (f := 9) rfl ?_); refine goesL_ (some 11) rfl rfl Tryd.func9 (by kernel_rfl) rfl #[.slice A0 l0.length c0] rfl (by (try simp only [List.map_toArray, List.map_cons, List.map_nil]); first | done | rfl | (simp only [List.length_drop, List.length_take]; rfl)) ?_; (with_reducible refine (spec_DrawOpText.calls k _ _ l0 t214 t215 t216 t217 t218 _ ?side1 ?side2 A3.out).mono ?_); (case side1 => repeat (first | exact HR0.out | (with_reducible refine Kd.C_alloc ?_ _) | (with_reducible refine Kd.C_drewN ?_ _) | (with_reducible refine Kd.C_drew ?_))); (case side2 => exact HC0.out); rintro e w6 ⟨rfl, hb⟩; refine ⟨_, rfl, ?_⟩; replace HB := am (below_step (zb HB) hb); (try clear hb); (try clear hb2); (try clear hk); (try clear hi)) | ((with_reducible refine gate_dst (N := 3) rfl ?_); refine bx 24 #[.int .i64 0, .string (⟨#[]⟩ : ByteArray), .string (⟨#[]⟩ : ByteArray), .int .i64 0, .string (⟨#[]⟩ : ByteArray)] ?_; intro gb219 hg w7 hbox hb; have BK219 := am (hbox); have GW219 := am (zn hg (zb HB)); have GE219 := am (zn hg (zb HB)); replace HB := am (below_step (zb HB) hb); clear hb hbox hg; have hcz8_0 := ce0 BK219; have hcz8_1 := ce1 BK219; have hcz8_2 := ce2 BK219; have hcz8_3 := ce3 BK219; have hcz8_4 := ce4 BK219; have hfz8_0 := bfz BK219 0; have hfz8_1 := bfz BK219 1; have hfz8_2 := bfz BK219 2; have hfz8_3 := bfz BK219 3; have hfz8_4 := bfz BK219 4) | ((with_reducible refine gate_callee (f := 10) rfl ?_); refine goesL_ (some 13) rfl rfl Tryd.func10 (by kernel_rfl) rfl #[.agg #[.int .i64 t214, .string t215, .string t216, .int .i64 t217, .string t218]] rfl (by (try simp only [List.map_toArray, List.map_cons, List.map_nil]); first | done | rfl | (simp only [List.length_drop, List.length_take]; rfl)) ?_; (with_reducible refine (impl_OpText.calls k t214 t215 t216 t217 t218 t220 _ A4.out).mono ?_); rintro e w9 ⟨rfl, hb⟩; refine ⟨_, rfl, ?_⟩; replace BK219 := am (blk_below (g := gb219) (o := .cells #[.int .i64 t214, .string t215, .string t216, .int .i64 t217, .string t218] 24 (0, 0)) (zp BK219) hb); replace HB := am (below_step (zb HB) hb); (try clear hb); (try clear hb2); (try clear hk); (try clear hi)))
 (try simp only [Act.put, List.setIfInBounds_toArray, List.set_cons_zero, List.set_cons_succ])
 go_cut [21] (fun v21 wc => ∃ (kq : Nat) (x21_4 : Bool), v21 = .bool x21_4 ∧ Aside0 (laws_FnOpBack.j0 kq t220 x21_4 t214 t215 t216 t217 t218 = some r) ∧ Aside0 (kq ≤ k) ∧ Aside0 (wc.heap[gb219]? = some (.cells #[.int .i64 t214, .string t215, .string t216, .int .i64 t217, .string t218] 24 (0, 0))) ∧ Aside0 (Below w.heap.size w wc))
 case first =>
  have H := HC5.out
  clear HC5
  replace H := obs H
  obtain ⟨t221, A100, H⟩ := H
  replace H : (if t220.toList = t221.toList then (laws_FnOpBack.j0 k t220 (t220.toList == ([] : List UInt8)) t214 t215 t216 t217 t218) else (laws_FnOpBack.j0 k t220 true t214 t215 t216 t217 t218)) = some r := H
  have A10 := am A100
  clear A100
  by_cases c11 : t220.toList = t221.toList
  · rw [if_pos c11] at H
    have c11b0 : (t220.toList == t221.toList) = true := beq_iff_eq.mpr c11
    have c11b1 : (t220.toList != t221.toList) = false := bne_eq_false_iff_eq.mpr c11
    clear c11
    (first | rw [c11b0] | (simp only [i64_w, i32_w]; rw [c11b0]) | skip)
    have H' := am H
    clear H
    have hcz12_0 := ce0 BK219
    have hcz12_1 := ce1 BK219
    have hcz12_2 := ce2 BK219
    have hcz12_3 := ce3 BK219
    have hcz12_4 := ce4 BK219
    have hfz12_0 := bfz BK219 0
    have hfz12_1 := bfz BK219 1
    have hfz12_2 := bfz BK219 2
    have hfz12_3 := bfz BK219 3
    have hfz12_4 := bfz BK219 4
    go_wp2_with (first | ((with_reducible refine gate_callee (f := 11) rfl ?_); refine goesL_ (some 16) rfl rfl Tryd.func11 (by kernel_rfl) rfl #[.agg #[.int .i64 t214, .string t215, .string t216, .int .i64 t217, .string t218]] rfl (by (try simp only [List.map_toArray, List.map_cons, List.map_nil]); first | done | rfl | (simp only [List.length_drop, List.length_take]; rfl)) ?_; (with_reducible refine (spec_OpText.calls k t214 t215 t216 t217 t218 t221 _ A10.out).mono ?_); rintro e w13 ⟨rfl, hb⟩; refine ⟨_, rfl, ?_⟩; replace BK219 := am (blk_below (zk BK219) hb); replace HB := am (below_step (zb HB) hb); (try clear hb); (try clear hb2); (try clear hk); (try clear hi)))
    go_meet
    case rel => exact ⟨_, ((t220.toList == ([] : List UInt8))), ze, H', ⟨by first | omega | exact Nat.le_refl _⟩, ⟨zk BK219⟩, ⟨zb HB⟩⟩
  rw [if_neg c11] at H
  have c11b0 : (t220.toList == t221.toList) = false := beq_eq_false_iff_ne.mpr c11
  have c11b1 : (t220.toList != t221.toList) = true := bne_iff_ne.mpr c11
  (first | rw [c11b0] | (simp only [i64_w, i32_w]; rw [c11b0]) | skip)
  have H' := am H
  clear H
  have hcz14_0 := ce0 BK219
  have hcz14_1 := ce1 BK219
  have hcz14_2 := ce2 BK219
  have hcz14_3 := ce3 BK219
  have hcz14_4 := ce4 BK219
  have hfz14_0 := bfz BK219 0
  have hfz14_1 := bfz BK219 1
  have hfz14_2 := bfz BK219 2
  have hfz14_3 := bfz BK219 3
  have hfz14_4 := bfz BK219 4
  go_wp2_with (first | ((with_reducible refine gate_callee (f := 11) rfl ?_); refine goesL_ (some 16) rfl rfl Tryd.func11 (by kernel_rfl) rfl #[.agg #[.int .i64 t214, .string t215, .string t216, .int .i64 t217, .string t218]] rfl (by (try simp only [List.map_toArray, List.map_cons, List.map_nil]); first | done | rfl | (simp only [List.length_drop, List.length_take]; rfl)) ?_; (with_reducible refine (spec_OpText.calls k t214 t215 t216 t217 t218 t221 _ A10.out).mono ?_); rintro e w15 ⟨rfl, hb⟩; refine ⟨_, rfl, ?_⟩; replace BK219 := am (blk_below (zk BK219) hb); replace HB := am (below_step (zb HB) hb); (try clear hb); (try clear hb2); (try clear hk); (try clear hi)))
  go_meet
  case rel => exact ⟨_, (true), ze, H', ⟨by first | omega | exact Nat.le_refl _⟩, ⟨zk BK219⟩, ⟨zb HB⟩⟩
 clear HC5
 try clear c1
 try clear c2
 try clear c2b0
 try clear c2b1
 try clear p2
 try clear c8
 try clear c9
 try clear c10
 try clear c11
 try clear c11b0
 try clear c11b1
 try clear hcz12_0
 try clear hcz12_1
 try clear hcz12_2
 try clear hcz12_3
 try clear hcz12_4
 try clear hcz14_0
 try clear hcz14_1
 try clear hcz14_2
 try clear hcz14_3
 try clear hcz14_4
 try clear hcz8_0
 try clear hcz8_1
 try clear hcz8_2
 try clear hcz8_3
 try clear hcz8_4
 try clear hfz12_0
 try clear hfz12_1
 try clear hfz12_2
 try clear hfz12_3
 try clear hfz12_4
 try clear hfz14_0
 try clear hfz14_1
 try clear hfz14_2
 try clear hfz14_3
 try clear hfz14_4
 try clear hfz8_0
 try clear hfz8_1
 try clear hfz8_2
 try clear hfz8_3
 try clear hfz8_4
 obtain ⟨kq, x21_4, rfl, HA, HJ4, BK219, HB⟩ := hcut
 cases kq with
 | zero => exact absurd HA.out (by simp [laws_FnOpBack.j0])
 | succ kj4 =>
  have H := HA.out
  clear HA
  simp only [laws_FnOpBack.j0] at H
  by_cases c16 : x21_4 = true
  · subst c16
    have H1 : ((spec_OpText.f kj4 t214 t215 t216 t217 t218).bind fun t222 => (some (t220.toList == t222.toList))) = some r := by rw [if_pos rfl] at H; exact H
    clear H
    have H := H1
    clear H1
    replace H := obs H
    obtain ⟨t222, A170, H⟩ := H
    replace H : (some (t220.toList == t222.toList)) = some r := H
    have A17 := am A170
    clear A170
    obtain rfl := Option.some.inj H
    have hcz18_0 := ce0 BK219
    have hcz18_1 := ce1 BK219
    have hcz18_2 := ce2 BK219
    have hcz18_3 := ce3 BK219
    have hcz18_4 := ce4 BK219
    have hfz18_0 := bfz BK219 0
    have hfz18_1 := bfz BK219 1
    have hfz18_2 := bfz BK219 2
    have hfz18_3 := bfz BK219 3
    have hfz18_4 := bfz BK219 4
    go_wp2_with (first | ((with_reducible refine gate_callee (f := 11) rfl ?_); refine goesL_ (some 24) rfl rfl Tryd.func11 (by kernel_rfl) rfl #[.agg #[.int .i64 t214, .string t215, .string t216, .int .i64 t217, .string t218]] rfl (by (try simp only [List.map_toArray, List.map_cons, List.map_nil]); first | done | rfl | (simp only [List.length_drop, List.length_take]; rfl)) ?_; (with_reducible refine (spec_OpText.calls kj4 t214 t215 t216 t217 t218 t222 _ A17.out).mono ?_); rintro e w19 ⟨rfl, hb⟩; refine ⟨_, rfl, ?_⟩; replace BK219 := am (blk_below (zk BK219) hb); replace HB := am (below_step (zb HB) hb); (try clear hb); (try clear hb2); (try clear hk); (try clear hi)))
    go_ret
    exact ⟨zv, (zb HB)⟩
  replace c16 := Bool.eq_false_iff.mpr c16
  subst c16
  have H1 : ((impl_OpRead.f kj4 t220).bind fun bt223 => (if bt223.2.2.2.2.2 = true then (if (bt223.1 == t214 && (bt223.2.1.toList == t215.toList && (bt223.2.2.1.toList == t216.toList && (bt223.2.2.2.1 == t217 && (bt223.2.2.2.2.1.toList == t218.toList))))) = true then ((impl_OpOk.f kj4 t214 t215 t216 t217 t218).bind fun t230 => (some t230)) else (some false)) else (some false))) = some r := by rw [if_neg (show ¬ (false = true) by decide)] at H; exact H
  clear H
  have H := H1
  clear H1
  replace H := obs H
  obtain ⟨⟨t223, t224, t225, t226, t227, t228⟩, A200, H⟩ := H
  replace H : (if t228 = true then (if (t223 == t214 && (t224.toList == t215.toList && (t225.toList == t216.toList && (t226 == t217 && (t227.toList == t218.toList))))) = true then ((impl_OpOk.f kj4 t214 t215 t216 t217 t218).bind fun t230 => (some t230)) else (some false)) else (some false)) = some r := H
  have A20 := am A200
  clear A200
  by_cases c21 : t228 = true
  rotate_left
  · replace c21 := Bool.eq_false_iff.mpr c21
    subst c21
    have H1 : (some false) = some r := by rw [if_neg (show ¬ (false = true) by decide)] at H; exact H
    clear H
    have H := H1
    clear H1
    obtain rfl := Option.some.inj H
    go_wp2_with (first | ((with_reducible refine gate_callee (f := 12) rfl ?_); refine goesL_ (some 28) rfl rfl Tryd.func12 (by kernel_rfl) rfl #[.string t220] rfl (by (try simp only [List.map_toArray, List.map_cons, List.map_nil]); first | done | rfl | (simp only [List.length_drop, List.length_take]; rfl)) ?_; (with_reducible refine (impl_OpRead.calls kj4 t220 t223 t224 t225 t226 t227 false _ A20.out).mono ?_); rintro e w35 ⟨rfl, hb⟩; refine ⟨_, rfl, ?_⟩; replace BK219 := am (blk_below (zk BK219) hb); replace HB := am (below_step (zb HB) hb); (try clear hb); (try clear hb2); (try clear hk); (try clear hi)) | ((with_reducible refine gate_dst (N := 5) rfl ?_); refine bx 24 #[.int .i64 0, .string (⟨#[]⟩ : ByteArray), .string (⟨#[]⟩ : ByteArray), .int .i64 0, .string (⟨#[]⟩ : ByteArray)] ?_; intro gb229 hg w36 hbox hb; have BK229 := am (hbox); have GW229 := am (zn hg (zb HB)); have GE229 := am (zn hg (zb HB)); replace HB := am (below_step (zb HB) hb); have NB219_229 := am (zx hg (zk BK219)); have NB229_219 := am (zy hg (zk BK219)); replace BK219 := am (blk_below (zk BK219) hb); clear hb hbox hg; have hnb37 := NB229_219.out; have hnc37 := NB219_229.out; have hcz38_0 := ce0 BK229; have hcz38_1 := ce1 BK229; have hcz38_2 := ce2 BK229; have hcz38_3 := ce3 BK229; have hcz38_4 := ce4 BK229; have hfz38_0 := bfz BK229 0; have hfz38_1 := bfz BK229 1; have hfz38_2 := bfz BK229 2; have hfz38_3 := bfz BK229 3; have hfz38_4 := bfz BK229 4))
    go_ret
    exact ⟨zv, (zb HB)⟩
  subst c21
  have H1 : (if (t223 == t214 && (t224.toList == t215.toList && (t225.toList == t216.toList && (t226 == t217 && (t227.toList == t218.toList))))) = true then ((impl_OpOk.f kj4 t214 t215 t216 t217 t218).bind fun t230 => (some t230)) else (some false)) = some r := by rw [if_pos rfl] at H; exact H
  clear H
  have H := H1
  clear H1
  by_cases c22 : (t223 == t214 && (t224.toList == t215.toList && (t225.toList == t216.toList && (t226 == t217 && (t227.toList == t218.toList))))) = true
  rotate_left
  · rw [if_neg c22] at H
    have c22b0 : (t223 == t214 && (t224.toList == t215.toList && (t225.toList == t216.toList && (t226 == t217 && (t227.toList == t218.toList))))) = false := by simpa using c22
    (try (have c22b1 : decide (t223 = t214 && (t224.toList == t215.toList && (t225.toList == t216.toList && (t226 == t217 && (t227.toList == t218.toList))))) = false := by simpa using c22))
    (try (have c22b2 : (t223 == t214 && (t224.toList == t215.toList && (t225.toList == t216.toList && (t226 == t217 && (t227.toList == t218.toList))))) = false := by simpa using c22))
    (try (have c22b3 : ¬ (t223 = t214 && (t224.toList == t215.toList && (t225.toList == t216.toList && (t226 == t217 && (t227.toList == t218.toList))))) := by simpa using c22))
    clear c22
    obtain rfl := Option.some.inj H
    go_wp2_with (first | ((with_reducible refine gate_callee (f := 12) rfl ?_); refine goesL_ (some 28) rfl rfl Tryd.func12 (by kernel_rfl) rfl #[.string t220] rfl (by (try simp only [List.map_toArray, List.map_cons, List.map_nil]); first | done | rfl | (simp only [List.length_drop, List.length_take]; rfl)) ?_; (with_reducible refine (impl_OpRead.calls kj4 t220 t223 t224 t225 t226 t227 true _ A20.out).mono ?_); rintro e w30 ⟨rfl, hb⟩; refine ⟨_, rfl, ?_⟩; replace BK219 := am (blk_below (zk BK219) hb); replace HB := am (below_step (zb HB) hb); (try clear hb); (try clear hb2); (try clear hk); (try clear hi)) | ((with_reducible refine gate_dst (N := 5) rfl ?_); refine bx 24 #[.int .i64 0, .string (⟨#[]⟩ : ByteArray), .string (⟨#[]⟩ : ByteArray), .int .i64 0, .string (⟨#[]⟩ : ByteArray)] ?_; intro gb229 hg w31 hbox hb; have BK229 := am (hbox); have GW229 := am (zn hg (zb HB)); have GE229 := am (zn hg (zb HB)); replace HB := am (below_step (zb HB) hb); have NB219_229 := am (zx hg (zk BK219)); have NB229_219 := am (zy hg (zk BK219)); replace BK219 := am (blk_below (zk BK219) hb); clear hb hbox hg; have hnb32 := NB229_219.out; have hnc32 := NB219_229.out; have hcz33_0 := ce0 BK229; have hcz33_1 := ce1 BK229; have hcz33_2 := ce2 BK229; have hcz33_3 := ce3 BK229; have hcz33_4 := ce4 BK229; have hfz33_0 := bfz BK229 0; have hfz33_1 := bfz BK229 1; have hfz33_2 := bfz BK229 2; have hfz33_3 := bfz BK229 3; have hfz33_4 := bfz BK229 4; have hcz34_0 := ce0 BK219; have hcz34_1 := ce1 BK219; have hcz34_2 := ce2 BK219; have hcz34_3 := ce3 BK219; have hcz34_4 := ce4 BK219; have hfz34_0 := bfz BK219 0; have hfz34_1 := bfz BK219 1; have hfz34_2 := bfz BK219 2; have hfz34_3 := bfz BK219 3; have hfz34_4 := bfz BK219 4))
    go_ret
    exact ⟨zv, (zb HB)⟩
  rw [if_pos c22] at H
  have c22b0 : (t223 == t214 && (t224.toList == t215.toList && (t225.toList == t216.toList && (t226 == t217 && (t227.toList == t218.toList))))) = true := c22
  (try (have c22b1 : decide (t223 = t214 && (t224.toList == t215.toList && (t225.toList == t216.toList && (t226 == t217 && (t227.toList == t218.toList))))) = true := by simpa using c22))
  (try (have c22b2 : (t223 == t214 && (t224.toList == t215.toList && (t225.toList == t216.toList && (t226 == t217 && (t227.toList == t218.toList))))) = true := by simpa using c22))
  clear c22
  replace H := obs H
  obtain ⟨t230, A230, H⟩ := H
  replace H : (some t230) = some r := H
  have A23 := am A230
  clear A230
  obtain rfl := Option.some.inj H
  go_wp2_with (first | ((with_reducible refine gate_callee (f := 12) rfl ?_); refine goesL_ (some 28) rfl rfl Tryd.func12 (by kernel_rfl) rfl #[.string t220] rfl (by (try simp only [List.map_toArray, List.map_cons, List.map_nil]); first | done | rfl | (simp only [List.length_drop, List.length_take]; rfl)) ?_; (with_reducible refine (impl_OpRead.calls kj4 t220 t223 t224 t225 t226 t227 true _ A20.out).mono ?_); rintro e w24 ⟨rfl, hb⟩; refine ⟨_, rfl, ?_⟩; replace BK219 := am (blk_below (zk BK219) hb); replace HB := am (below_step (zb HB) hb); (try clear hb); (try clear hb2); (try clear hk); (try clear hi)) | ((with_reducible refine gate_dst (N := 5) rfl ?_); refine bx 24 #[.int .i64 0, .string (⟨#[]⟩ : ByteArray), .string (⟨#[]⟩ : ByteArray), .int .i64 0, .string (⟨#[]⟩ : ByteArray)] ?_; intro gb229 hg w25 hbox hb; have BK229 := am (hbox); have GW229 := am (zn hg (zb HB)); have GE229 := am (zn hg (zb HB)); replace HB := am (below_step (zb HB) hb); have NB219_229 := am (zx hg (zk BK219)); have NB229_219 := am (zy hg (zk BK219)); replace BK219 := am (blk_below (zk BK219) hb); clear hb hbox hg; have hnb26 := NB229_219.out; have hnc26 := NB219_229.out; have hcz27_0 := ce0 BK229; have hcz27_1 := ce1 BK229; have hcz27_2 := ce2 BK229; have hcz27_3 := ce3 BK229; have hcz27_4 := ce4 BK229; have hfz27_0 := bfz BK229 0; have hfz27_1 := bfz BK229 1; have hfz27_2 := bfz BK229 2; have hfz27_3 := bfz BK229 3; have hfz27_4 := bfz BK229 4; have hcz28_0 := ce0 BK219; have hcz28_1 := ce1 BK219; have hcz28_2 := ce2 BK219; have hcz28_3 := ce3 BK219; have hcz28_4 := ce4 BK219; have hfz28_0 := bfz BK219 0; have hfz28_1 := bfz BK219 1; have hfz28_2 := bfz BK219 2; have hfz28_3 := bfz BK219 3; have hfz28_4 := bfz BK219 4) | (go_at_call 16; (with_reducible refine (impl_OpOk.calls kj4 t214 t215 t216 t217 t218 t230 _ A23.out).mono ?_); rintro e w29 ⟨rfl, hb⟩; replace BK219 := am (blk_below (zk BK219) hb); replace BK229 := am (blk_below (g := gb229) (o := .cells #[.int .i64 t223, .string t224, .string t225, .int .i64 t226, .string t227] 24 (0, 0)) (zp BK229) hb); replace HB := am (below_step (zb HB) hb); (try clear hb); (try clear hb2); (try clear hk); (try clear hi)))
  go_ret
  exact ⟨zv, (zb HB)⟩
/-- THE ONE PURE STATEMENT of laws_FnOpBack: yours. -/
def laws_FnOpBack.Pure : Prop := ∀ (l0 : List Int), l0.length ≤ maxLen → l0.length * 1 ≤ 140737488351232 → (∀ x ∈ l0, (Lit.int .u8 x).wf = true) → ∃ k, laws_FnOpBack.f k l0 = some true
theorem laws_FnOpBack.walk (P : laws_FnOpBack.Pure) (a0 : Option Addr) (len0 cap0 : Nat) (z0 : List Int) (w : World) (w0 : (a0 = none ∧ len0 = 0 ∧ cap0 = 0 ∧ z0 = []) ∨ ∃ x, a0 = some x ∧ len0 ≤ cap0 ∧ cap0 ≤ maxLen ∧ z0.length = cap0 ∧ (∀ i, i < z0.length → w.cell? (x.add i) = some (.int .u8 (z0.getD i 0))) ∧ ∀ n ∈ z0, (Lit.int .u8 n).wf = true) (y0 : len0 * 1 ≤ 140737488351232) (hW : ROK w) :
 Calls Tryd.prog 8 #[.slice a0 len0 cap0] w fun e w' => e = .returned (.bool true) ∧ Below w.heap.size w w' := by
 obtain ⟨l0, rfl, hr0, hm0, hw0, hc0⟩ := ReadsInt.ofRowC w0
 obtain ⟨k, h⟩ := P l0 hm0 y0 hw0
 refine (laws_FnOpBack.calls k _ _ l0 true w (Kd.C_of_reads (d := (0 : Int)) (h1 := fun _ => rfl) hr0) hc0 h hW).mono ?_
 rintro e w' ⟨rfl, hd⟩
 exact ⟨rfl, hd⟩
end Go.Proofs.YtagfiehoodepbaaDoor.PFnOpBack
