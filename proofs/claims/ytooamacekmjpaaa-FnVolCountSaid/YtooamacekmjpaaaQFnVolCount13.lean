/- The walk: each function that the law comes to as a plain Lean function, and a proof that the Go code answers so. Written by this session's program over the kit's printer. -/
import Derived.Test.YtooamacekmjpaaaZ
import Derived.Test.YtooamacekmjpaaaQFnVolCount0
import Derived.Test.YtooamacekmjpaaaQFnVolCount1
import Derived.Test.YtooamacekmjpaaaQFnVolCount12
namespace Go.Proofs.Ytooamacekmjpaaa.PFnVolCount
open Go.RowKit Go.Proofs.YtooamacekmjpaaaW.PrintWords Go.Proofs.YtooamacekmjpaaaW.PrintLast Go.Proofs.YtooamacekmjpaaaW.PrintMore
attribute [local go_sem] max2_int min2_int max_two min_two max_three min_three max_four min_four   -- for this text's walks alone
set_option linter.unusedVariables false
set_option linter.unusedSimpArgs false
/-! ### impl_Vol_uses: function 46 -/
def impl_Vol_uses.l0 : Nat → Int → Int → List Int → Int → Int → Option (Int)
 | 0, _, _, _, _, _ => none
 | k + 1, x1, x5, x9, x10, x11 => if x11 < x10 then (if 0 ≤ x11 then (if x11 < (x9.length : Int) then (if (rd x9 x11) = x1 then (impl_Vol_uses.l0 k x1 (wrap64 (x5 + 1)) x9 x10 (wrap64 (x11 + 1))) else (impl_Vol_uses.l0 k x1 x5 x9 x10 (wrap64 (x11 + 1)))) else (none)) else (none)) else (some x5)
def impl_Vol_uses.f (k : Nat) (a0_0 : ByteArray) (l0_1 : List Int) (a1 : Int) : Option (Int) := impl_Vol_uses.l0 k a1 0 l0_1 (l0_1.length : Int) 0
theorem impl_Vol_uses.mono_l : ∀ k, (∀ y0 y1 y2 y3 y4, LeO (impl_Vol_uses.l0 k y0 y1 y2 y3 y4) (impl_Vol_uses.l0 (k + 1) y0 y1 y2 y3 y4))
 | 0 => fun _ _ _ _ _ r h => by simp [impl_Vol_uses.l0] at h
 | k + 1 => by
  have ih0 := impl_Vol_uses.mono_l k
  intro y0 y1 y2 y3 y4
  unfold impl_Vol_uses.l0
  exact mo1 ih0
theorem impl_Vol_uses.mono : ∀ a0 a1 a2 k, LeO (impl_Vol_uses.f k a0 a1 a2) (impl_Vol_uses.f (k + 1) a0 a1 a2) := by
 intro a0 a1 a2 k
 have ih0 := impl_Vol_uses.mono_l k
 unfold impl_Vol_uses.f
 exact mo1 ih0
set_option maxHeartbeats 8000000 in
set_option maxRecDepth 100000 in
theorem impl_Vol_uses.calls (k : Nat) (a0_0 : ByteArray) (A0_1 : Option Addr) (c0_1 : Nat) (l0_1 : List Int) (a1 : Int) (r : Int) (w : World) (hr0_1 : Kd.C (Kd.int .i64) w A0_1 l0_1.length l0_1) (hc0_1 : l0_1.length ≤ c0_1) (h : impl_Vol_uses.f k a0_0 l0_1 a1 = some r) :
 Calls Try.prog 46 #[.agg #[.string a0_0, .slice A0_1 l0_1.length c0_1], .int .i64 a1] w fun e w' => e = .returned (.int .i64 r) ∧ Below w.heap.size w w' := by
 have hu38 := Try.underlying38
 have HR0_1 := am hr0_1
 have HC0_1 := am hc0_1
 clear hr0_1 hc0_1
 have HB := am (Below.refl w.heap.size w)
 have H : (impl_Vol_uses.l0 k a1 0 l0_1 (l0_1.length : Int) 0) = some r := h
 clear h
 have H' := am H
 clear H
 go_enter Try.func46, Try.ntmps46
 go_wp2_with (first | ((with_reducible refine gate_dst (N := 2) rfl ?_); refine bx 38 #[.string a0_0, .slice A0_1 l0_1.length c0_1] ?_; intro gb502 hg w3 hbox hb; have BK502 := am (hbox); have GW502 := am (zn hg (zb HB)); have GE502 := am (zn hg (zb HB)); replace HB := am (below_step (zb HB) hb); clear hb hbox hg; have hcz4_0 := ce0 BK502; have hcz4_1 := ce1 BK502; have hfz4_0 := bfz BK502 0; have hfz4_1 := bfz BK502 1))
 go_loopg [5, 11] k (fun kq v5 v11 w' => ∃ (x5_1 : Int) (x11_1 : Int), v5 = .int .i64 x5_1 ∧ v11 = .int .i64 x11_1 ∧ Aside0 (impl_Vol_uses.l0 kq a1 x5_1 l0_1 (l0_1.length : Int) x11_1 = some r) ∧ Aside0 (kq ≤ k) ∧ Aside0 (w'.heap[gb502]? = some (.cells #[.string a0_0, (.slice A0_1 l0_1.length c0_1)] 38 (0, 0))) ∧ Aside0 (Below w.heap.size w w'))
 case atStart => exact ⟨(0), (0), ze, ze, H', ⟨Nat.le_refl _⟩, ⟨zk BK502⟩, ⟨zb HB⟩⟩
 case round =>
  clear H'
  try clear p2
  try clear c4
  try clear hcz4_0
  try clear hcz4_1
  try clear hfz4_0
  try clear hfz4_1
  obtain ⟨x5_1, x11_1, rfl, rfl, HA, HK1, BK502, HB⟩ := hrel
  cases gk with
  | zero => exact absurd HA.out (by simp [impl_Vol_uses.l0])
  | succ k1 =>
   have H := HA.out
   clear HA
   simp only [impl_Vol_uses.l0] at H
   by_cases c5 : x11_1 < (l0_1.length : Int)
   rotate_left
   · rw [if_neg c5] at H
     have c5b0 : decide (x11_1 < (l0_1.length : Int)) = false := decide_eq_false c5
     clear c5
     obtain rfl := Option.some.inj H
     go_wp2
     go_ret
     exact ⟨zv, (zb HB)⟩
   rw [if_pos c5] at H
   have c5b0 : decide (x11_1 < (l0_1.length : Int)) = true := decide_eq_true c5
   clear c5
   by_cases c6 : 0 ≤ x11_1
   rotate_left
   · rw [if_neg c6] at H
     exact absurd H (by simp)
   rw [if_pos c6] at H
   have c6b0 : decide (0 ≤ x11_1) = true := decide_eq_true c6
   clear c6
   by_cases c7 : x11_1 < (l0_1.length : Int)
   rotate_left
   · rw [if_neg c7] at H
     exact absurd H (by simp)
   rw [if_pos c7] at H
   have c7b0 : decide (x11_1 < (l0_1.length : Int)) = true := decide_eq_true c7
   clear c7
   by_cases c8 : (rd l0_1 x11_1) = a1
   · rw [if_pos c8] at H
     have c8b0 : ((rd l0_1 x11_1) == a1) = true := beq_iff_eq.mpr c8
     have c8b1 : ((rd l0_1 x11_1) != a1) = false := bne_eq_false_iff_eq.mpr c8
     clear c8
     have H' := am H
     clear H
     have p503 : 0 ≤ (x11_1 : Int) := of_decide_eq_true zl
     have q503 : x11_1 < (l0_1.length : Int) := of_decide_eq_true zl
     obtain ⟨ad503, e503, hx503_0⟩ := Kd.at_int HR0_1.out x11_1 p503 q503
     cases e503
     replace hx503_0 := hcx HB hx503_0
     replace p503 := eq_true p503
     replace q503 := eq_true q503
     go_wp2
     go_roundg k1
     case measure => have := HK1.out; omega
     case rel => exact ⟨(wrap64 (x5_1 + 1)), (wrap64 (x11_1 + 1)), ze, ze, H', ⟨by have := HK1.out; omega⟩, ⟨zk BK502⟩, ⟨zb HB⟩⟩
   rw [if_neg c8] at H
   have c8b0 : ((rd l0_1 x11_1) == a1) = false := beq_eq_false_iff_ne.mpr c8
   have c8b1 : ((rd l0_1 x11_1) != a1) = true := bne_iff_ne.mpr c8
   have H' := am H
   clear H
   have p503 : 0 ≤ (x11_1 : Int) := of_decide_eq_true zl
   have q503 : x11_1 < (l0_1.length : Int) := of_decide_eq_true zl
   obtain ⟨ad503, e503, hx503_0⟩ := Kd.at_int HR0_1.out x11_1 p503 q503
   cases e503
   replace hx503_0 := hcx HB hx503_0
   replace p503 := eq_true p503
   replace q503 := eq_true q503
   go_wp2
   go_roundg k1
   case measure => have := HK1.out; omega
   case rel => exact ⟨(x5_1), (wrap64 (x11_1 + 1)), ze, ze, H', ⟨by have := HK1.out; omega⟩, ⟨zk BK502⟩, ⟨zb HB⟩⟩
/-! ### impl_isSlot: function 59 -/
def impl_isSlot.f (a0 : Int) : Option (Bool) := (impl_within.f a0 1 8).bind fun t504 => (some t504)
set_option maxHeartbeats 8000000 in
set_option maxRecDepth 100000 in
theorem impl_isSlot.calls (a0 : Int) (r : Bool) (w : World) (h : impl_isSlot.f a0 = some r) :
 Calls Try.prog 59 #[.int .i64 a0] w fun e w' => e = .returned (.bool r) ∧ Drawn0 w w' := by
 have H : ((impl_within.f a0 1 8).bind fun t504 => (some t504)) = some r := h
 clear h
 replace H := obs H
 obtain ⟨t504, A20, H⟩ := H
 replace H : (some t504) = some r := H
 have A2 := am A20
 clear A20
 obtain rfl := Option.some.inj H
 go_enter Try.func59, Try.ntmps59
 go_wp2_with (first | ((with_reducible refine gate_callee (f := 53) rfl ?_); refine gl Try.func53 4 #[.int .i64 a0, .int .i64 1, .int .i64 8] rfl rfl rfl ?_; (with_reducible refine (impl_within.calls a0 1 8 t504 _ A2.out).mono ?_); rintro e w' ⟨rfl, ⟨nd, rfl⟩⟩; refine ⟨_, rfl, ?_⟩))
 go_ret
 exact ⟨by first | rfl | (simp; done) | (simp [*]; done), by repeat (first | exact Drawn0.refl _ | apply Drawn0.step)⟩
/-! ### impl_VolUses: function 27 -/
def impl_VolUses.f (k : Nat) (a0_0 : ByteArray) (l0_1 : List Int) (a1 : Int) : Option (Int) := (impl_VolOk.f k a0_0 l0_1).bind fun t506 => (if t506 = true then ((impl_isSlot.f a1).bind fun t507 => (if t507 = true then ((impl_Vol_uses.f k a0_0 l0_1 a1).bind fun t508 => (some t508)) else (some 0))) else (some 0))
theorem impl_VolUses.mono : ∀ a0 a1 a2 k, LeO (impl_VolUses.f k a0 a1 a2) (impl_VolUses.f (k + 1) a0 a1 a2) := by
 intro a0 a1 a2 k
 unfold impl_VolUses.f
 exact mo2 @impl_VolOk.mono @impl_Vol_uses.mono
set_option maxHeartbeats 8000000 in
set_option maxRecDepth 100000 in
theorem impl_VolUses.calls (k : Nat) (a0_0 : ByteArray) (A0_1 : Option Addr) (c0_1 : Nat) (l0_1 : List Int) (a1 : Int) (r : Int) (w : World) (hr0_1 : Kd.C (Kd.int .i64) w A0_1 l0_1.length l0_1) (hc0_1 : l0_1.length ≤ c0_1) (h : impl_VolUses.f k a0_0 l0_1 a1 = some r) :
 Calls Try.prog 27 #[.agg #[.string a0_0, .slice A0_1 l0_1.length c0_1], .int .i64 a1] w fun e w' => e = .returned (.int .i64 r) ∧ Below w.heap.size w w' := by
 have hu38 := Try.underlying38
 have HR0_1 := am hr0_1
 have HC0_1 := am hc0_1
 clear hr0_1 hc0_1
 have HB := am (Below.refl w.heap.size w)
 have H : ((impl_VolOk.f k a0_0 l0_1).bind fun t506 => (if t506 = true then ((impl_isSlot.f a1).bind fun t507 => (if t507 = true then ((impl_Vol_uses.f k a0_0 l0_1 a1).bind fun t508 => (some t508)) else (some 0))) else (some 0))) = some r := h
 clear h
 replace H := obs H
 obtain ⟨t506, A30, H⟩ := H
 replace H : (if t506 = true then ((impl_isSlot.f a1).bind fun t507 => (if t507 = true then ((impl_Vol_uses.f k a0_0 l0_1 a1).bind fun t508 => (some t508)) else (some 0))) else (some 0)) = some r := H
 have A3 := am A30
 clear A30
 by_cases c4 : t506 = true
 rotate_left
 · replace c4 := Bool.eq_false_iff.mpr c4
   subst c4
   have H1 : (some 0) = some r := by rw [if_neg (show ¬ (false = true) by decide)] at H; exact H
   clear H
   have H := H1
   clear H1
   obtain rfl := Option.some.inj H
   go_enter Try.func27, Try.ntmps27
   go_wp2_with (first | ((with_reducible refine gate_dst (N := 2) rfl ?_); refine bx 38 #[.string a0_0, .slice A0_1 l0_1.length c0_1] ?_; intro gb505 hg w16 hbox hb; have BK505 := am (hbox); have GW505 := am (zn hg (zb HB)); have GE505 := am (zn hg (zb HB)); replace HB := am (below_step (zb HB) hb); clear hb hbox hg; have hcz17_0 := ce0 BK505; have hcz17_1 := ce1 BK505; have hfz17_0 := bfz BK505 0; have hfz17_1 := bfz BK505 1) | ((with_reducible refine gate_callee (f := 20) rfl ?_); refine gl Try.func20 6 #[.agg #[.string a0_0, .slice A0_1 l0_1.length c0_1]] rfl rfl rfl ?_; (with_reducible refine (impl_VolOk.calls k a0_0 _ _ l0_1 false _ ?side1 ?side2 A3.out).mono ?_); (case side1 => exact zc (Kd.C_below HR0_1.out HB.out)); (case side2 => exact HC0_1.out); rintro e w18 ⟨rfl, hb⟩; refine ⟨_, rfl, ?_⟩; replace BK505 := am (blk_below (zk BK505) hb); replace HB := am (below_step (zb HB) hb); (try clear hb); (try clear hb2); (try clear hk); (try clear hi)))
   go_ret
   exact ⟨zv, (zb HB)⟩
 subst c4
 have H1 : ((impl_isSlot.f a1).bind fun t507 => (if t507 = true then ((impl_Vol_uses.f k a0_0 l0_1 a1).bind fun t508 => (some t508)) else (some 0))) = some r := by rw [if_pos rfl] at H; exact H
 clear H
 have H := H1
 clear H1
 replace H := obs H
 obtain ⟨t507, A50, H⟩ := H
 replace H : (if t507 = true then ((impl_Vol_uses.f k a0_0 l0_1 a1).bind fun t508 => (some t508)) else (some 0)) = some r := H
 have A5 := am A50
 clear A50
 by_cases c6 : t507 = true
 rotate_left
 · replace c6 := Bool.eq_false_iff.mpr c6
   subst c6
   have H1 : (some 0) = some r := by rw [if_neg (show ¬ (false = true) by decide)] at H; exact H
   clear H
   have H := H1
   clear H1
   obtain rfl := Option.some.inj H
   go_enter Try.func27, Try.ntmps27
   go_wp2_with (first | ((with_reducible refine gate_dst (N := 2) rfl ?_); refine bx 38 #[.string a0_0, .slice A0_1 l0_1.length c0_1] ?_; intro gb505 hg w13 hbox hb; have BK505 := am (hbox); have GW505 := am (zn hg (zb HB)); have GE505 := am (zn hg (zb HB)); replace HB := am (below_step (zb HB) hb); clear hb hbox hg; have hcz14_0 := ce0 BK505; have hcz14_1 := ce1 BK505; have hfz14_0 := bfz BK505 0; have hfz14_1 := bfz BK505 1) | ((with_reducible refine gate_callee (f := 20) rfl ?_); refine gl Try.func20 6 #[.agg #[.string a0_0, .slice A0_1 l0_1.length c0_1]] rfl rfl rfl ?_; (with_reducible refine (impl_VolOk.calls k a0_0 _ _ l0_1 true _ ?side1 ?side2 A3.out).mono ?_); (case side1 => exact zc (Kd.C_below HR0_1.out HB.out)); (case side2 => exact HC0_1.out); rintro e w15 ⟨rfl, hb⟩; refine ⟨_, rfl, ?_⟩; replace BK505 := am (blk_below (zk BK505) hb); replace HB := am (below_step (zb HB) hb); (try clear hb); (try clear hb2); (try clear hk); (try clear hi)) | (go_at_call 59; (with_reducible refine (impl_isSlot.calls a1 false _ A5.out).mono ?_); rintro e w' ⟨rfl, ⟨nd, rfl⟩⟩))
   go_ret
   exact ⟨zv, (zb HB)⟩
 subst c6
 have H1 : ((impl_Vol_uses.f k a0_0 l0_1 a1).bind fun t508 => (some t508)) = some r := by rw [if_pos rfl] at H; exact H
 clear H
 have H := H1
 clear H1
 replace H := obs H
 obtain ⟨t508, A70, H⟩ := H
 replace H : (some t508) = some r := H
 have A7 := am A70
 clear A70
 obtain rfl := Option.some.inj H
 go_enter Try.func27, Try.ntmps27
 go_wp2_with (first | ((with_reducible refine gate_dst (N := 2) rfl ?_); refine bx 38 #[.string a0_0, .slice A0_1 l0_1.length c0_1] ?_; intro gb505 hg w8 hbox hb; have BK505 := am (hbox); have GW505 := am (zn hg (zb HB)); have GE505 := am (zn hg (zb HB)); replace HB := am (below_step (zb HB) hb); clear hb hbox hg; have hcz9_0 := ce0 BK505; have hcz9_1 := ce1 BK505; have hfz9_0 := bfz BK505 0; have hfz9_1 := bfz BK505 1) | ((with_reducible refine gate_callee (f := 20) rfl ?_); refine gl Try.func20 6 #[.agg #[.string a0_0, .slice A0_1 l0_1.length c0_1]] rfl rfl rfl ?_; (with_reducible refine (impl_VolOk.calls k a0_0 _ _ l0_1 true _ ?side1 ?side2 A3.out).mono ?_); (case side1 => exact zc (Kd.C_below HR0_1.out HB.out)); (case side2 => exact HC0_1.out); rintro e w10 ⟨rfl, hb⟩; refine ⟨_, rfl, ?_⟩; replace BK505 := am (blk_below (zk BK505) hb); replace HB := am (below_step (zb HB) hb); (try clear hb); (try clear hb2); (try clear hk); (try clear hi)) | (go_at_call 59; (with_reducible refine (impl_isSlot.calls a1 true _ A5.out).mono ?_); rintro e w' ⟨rfl, ⟨nd, rfl⟩⟩; have hcz11_0 := ce0 BK505; have hcz11_1 := ce1 BK505; have hfz11_0 := bfz BK505 0; have hfz11_1 := bfz BK505 1) | ((with_reducible refine gate_callee (f := 46) rfl ?_); refine gl Try.func46 15 #[.agg #[.string a0_0, .slice A0_1 l0_1.length c0_1], .int .i64 a1] rfl rfl rfl ?_; (with_reducible refine (impl_Vol_uses.calls k a0_0 _ _ l0_1 a1 t508 _ ?side1 ?side2 A7.out).mono ?_); (case side1 => exact zc (Kd.C_below HR0_1.out (zb HB))); (case side2 => exact HC0_1.out); rintro e w12 ⟨rfl, hb⟩; refine ⟨_, rfl, ?_⟩; replace BK505 := am (blk_below (zk BK505) hb); replace HB := am (below_step (zb HB) hb); (try clear hb); (try clear hb2); (try clear hk); (try clear hi)))
 go_ret
 exact ⟨zv, (zb HB)⟩
/-! ### spec_l3Uses: function 60 -/
def spec_l3Uses.l0 : Nat → Int → Int → Int → ByteArray → List Int → Option (Int)
 | 0, _, _, _, _, _ => none
 | k + 1, x1, x5, x6, x510000, x510001 => if x6 < (x510001.length : Int) then (if 0 ≤ x6 then (if (rd x510001 x6) = x1 then (spec_l3Uses.l0 k x1 (wrap64 (x5 + 1)) (wrap64 (x6 + 1)) x510000 x510001) else (spec_l3Uses.l0 k x1 x5 (wrap64 (x6 + 1)) x510000 x510001)) else (none)) else (some x5)
def spec_l3Uses.f (k : Nat) (a0_0 : ByteArray) (l0_1 : List Int) (a1 : Int) : Option (Int) := spec_l3Uses.l0 k a1 0 0 a0_0 l0_1
theorem spec_l3Uses.mono_l : ∀ k, (∀ y0 y1 y2 y3 y4, LeO (spec_l3Uses.l0 k y0 y1 y2 y3 y4) (spec_l3Uses.l0 (k + 1) y0 y1 y2 y3 y4))
 | 0 => fun _ _ _ _ _ r h => by simp [spec_l3Uses.l0] at h
 | k + 1 => by
  have ih0 := spec_l3Uses.mono_l k
  intro y0 y1 y2 y3 y4
  unfold spec_l3Uses.l0
  exact mo1 ih0
theorem spec_l3Uses.mono : ∀ a0 a1 a2 k, LeO (spec_l3Uses.f k a0 a1 a2) (spec_l3Uses.f (k + 1) a0 a1 a2) := by
 intro a0 a1 a2 k
 have ih0 := spec_l3Uses.mono_l k
 unfold spec_l3Uses.f
 exact mo1 ih0
set_option maxHeartbeats 8000000 in
set_option maxRecDepth 100000 in
theorem spec_l3Uses.calls (k : Nat) (a0_0 : ByteArray) (A0_1 : Option Addr) (c0_1 : Nat) (l0_1 : List Int) (a1 : Int) (r : Int) (w : World) (hr0_1 : Kd.C (Kd.int .i64) w A0_1 l0_1.length l0_1) (hc0_1 : l0_1.length ≤ c0_1) (h : spec_l3Uses.f k a0_0 l0_1 a1 = some r) :
 Calls Try.prog 60 #[.agg #[.string a0_0, .slice A0_1 l0_1.length c0_1], .int .i64 a1] w fun e w' => e = .returned (.int .i64 r) ∧ Below w.heap.size w w' := by
 have hu38 := Try.underlying38
 have HR0_1 := am hr0_1
 have HC0_1 := am hc0_1
 clear hr0_1 hc0_1
 have HB := am (Below.refl w.heap.size w)
 have H : (spec_l3Uses.l0 k a1 0 0 a0_0 l0_1) = some r := h
 clear h
 have H' := am H
 clear H
 go_enter Try.func60, Try.ntmps60
 go_wp2_with (first | ((with_reducible refine gate_dst (N := 2) rfl ?_); refine bx 38 #[.string a0_0, .slice A0_1 l0_1.length c0_1] ?_; intro gb509 hg w3 hbox hb; have BK509 := am (hbox); have GW509 := am (zn hg (zb HB)); have GE509 := am (zn hg (zb HB)); replace HB := am (below_step (zb HB) hb); clear hb hbox hg))
 go_loopg [5, 6] k (fun kq v5 v6 w' => ∃ (x5_1 : Int) (x6_1 : Int), v5 = .int .i64 x5_1 ∧ v6 = .int .i64 x6_1 ∧ Aside0 (spec_l3Uses.l0 kq a1 x5_1 x6_1 a0_0 l0_1 = some r) ∧ Aside0 (kq ≤ k) ∧ Aside0 (w'.heap[gb509]? = some (.cells #[.string a0_0, (.slice A0_1 l0_1.length c0_1)] 38 (0, 0))) ∧ Aside0 (Below w.heap.size w w'))
 case atStart => exact ⟨(0), (0), ze, ze, H', ⟨Nat.le_refl _⟩, ⟨zk BK509⟩, ⟨zb HB⟩⟩
 case round =>
  clear H'
  try clear p2
  obtain ⟨x5_1, x6_1, rfl, rfl, HA, HK1, BK509, HB⟩ := hrel
  cases gk with
  | zero => exact absurd HA.out (by simp [spec_l3Uses.l0])
  | succ k1 =>
   have H := HA.out
   clear HA
   simp only [spec_l3Uses.l0] at H
   by_cases c4 : x6_1 < (l0_1.length : Int)
   rotate_left
   · rw [if_neg c4] at H
     have c4b0 : decide (x6_1 < (l0_1.length : Int)) = false := decide_eq_false c4
     clear c4
     obtain rfl := Option.some.inj H
     have hcz9_0 := ce0 BK509
     have hcz9_1 := ce1 BK509
     have hfz9_0 := bfz BK509 0
     have hfz9_1 := bfz BK509 1
     go_wp2
     go_ret
     exact ⟨zv, (zb HB)⟩
   rw [if_pos c4] at H
   have c4b0 : decide (x6_1 < (l0_1.length : Int)) = true := decide_eq_true c4
   clear c4
   by_cases c5 : 0 ≤ x6_1
   rotate_left
   · rw [if_neg c5] at H
     exact absurd H (by simp)
   rw [if_pos c5] at H
   have c5b0 : decide (0 ≤ x6_1) = true := decide_eq_true c5
   clear c5
   by_cases c6 : (rd l0_1 x6_1) = a1
   · rw [if_pos c6] at H
     have c6b0 : ((rd l0_1 x6_1) == a1) = true := beq_iff_eq.mpr c6
     have c6b1 : ((rd l0_1 x6_1) != a1) = false := bne_eq_false_iff_eq.mpr c6
     clear c6
     have H' := am H
     clear H
     have hcz7_0 := ce0 BK509
     have hcz7_1 := ce1 BK509
     have hfz7_0 := bfz BK509 0
     have hfz7_1 := bfz BK509 1
     have p510 : 0 ≤ (x6_1 : Int) := of_decide_eq_true zl
     have q510 : x6_1 < (l0_1.length : Int) := of_decide_eq_true zl
     obtain ⟨ad510, e510, hx510_0⟩ := Kd.at_int HR0_1.out x6_1 p510 q510
     cases e510
     replace hx510_0 := hcx HB hx510_0
     replace p510 := eq_true p510
     replace q510 := eq_true q510
     go_wp2
     go_roundg k1
     case measure => have := HK1.out; omega
     case rel => exact ⟨(wrap64 (x5_1 + 1)), (wrap64 (x6_1 + 1)), ze, ze, H', ⟨by have := HK1.out; omega⟩, ⟨zk BK509⟩, ⟨zb HB⟩⟩
   rw [if_neg c6] at H
   have c6b0 : ((rd l0_1 x6_1) == a1) = false := beq_eq_false_iff_ne.mpr c6
   have c6b1 : ((rd l0_1 x6_1) != a1) = true := bne_iff_ne.mpr c6
   have H' := am H
   clear H
   have hcz8_0 := ce0 BK509
   have hcz8_1 := ce1 BK509
   have hfz8_0 := bfz BK509 0
   have hfz8_1 := bfz BK509 1
   have p510 : 0 ≤ (x6_1 : Int) := of_decide_eq_true zl
   have q510 : x6_1 < (l0_1.length : Int) := of_decide_eq_true zl
   obtain ⟨ad510, e510, hx510_0⟩ := Kd.at_int HR0_1.out x6_1 p510 q510
   cases e510
   replace hx510_0 := hcx HB hx510_0
   replace p510 := eq_true p510
   replace q510 := eq_true q510
   go_wp2
   go_roundg k1
   case measure => have := HK1.out; omega
   case rel => exact ⟨(x5_1), (wrap64 (x6_1 + 1)), ze, ze, H', ⟨by have := HK1.out; omega⟩, ⟨zk BK509⟩, ⟨zb HB⟩⟩
/-! ### spec_VolUses: function 28 -/
def spec_VolUses.f (k : Nat) (a0_0 : ByteArray) (l0_1 : List Int) (a1 : Int) : Option (Int) := (spec_VolOk.f k a0_0 l0_1).bind fun t512 => (if t512 = true then ((spec_l6In.f a1 1 8).bind fun t513 => (if t513 = true then ((spec_l3Uses.f k a0_0 l0_1 a1).bind fun t514 => (some t514)) else (some 0))) else (some 0))
theorem spec_VolUses.mono : ∀ a0 a1 a2 k, LeO (spec_VolUses.f k a0 a1 a2) (spec_VolUses.f (k + 1) a0 a1 a2) := by
 intro a0 a1 a2 k
 unfold spec_VolUses.f
 exact mo2 @spec_VolOk.mono @spec_l3Uses.mono
set_option maxHeartbeats 8000000 in
set_option maxRecDepth 100000 in
theorem spec_VolUses.calls (k : Nat) (a0_0 : ByteArray) (A0_1 : Option Addr) (c0_1 : Nat) (l0_1 : List Int) (a1 : Int) (r : Int) (w : World) (hr0_1 : Kd.C (Kd.int .i64) w A0_1 l0_1.length l0_1) (hc0_1 : l0_1.length ≤ c0_1) (h : spec_VolUses.f k a0_0 l0_1 a1 = some r) :
 Calls Try.prog 28 #[.agg #[.string a0_0, .slice A0_1 l0_1.length c0_1], .int .i64 a1] w fun e w' => e = .returned (.int .i64 r) ∧ Below w.heap.size w w' := by
 have hu38 := Try.underlying38
 have HR0_1 := am hr0_1
 have HC0_1 := am hc0_1
 clear hr0_1 hc0_1
 have HB := am (Below.refl w.heap.size w)
 have H : ((spec_VolOk.f k a0_0 l0_1).bind fun t512 => (if t512 = true then ((spec_l6In.f a1 1 8).bind fun t513 => (if t513 = true then ((spec_l3Uses.f k a0_0 l0_1 a1).bind fun t514 => (some t514)) else (some 0))) else (some 0))) = some r := h
 clear h
 replace H := obs H
 obtain ⟨t512, A30, H⟩ := H
 replace H : (if t512 = true then ((spec_l6In.f a1 1 8).bind fun t513 => (if t513 = true then ((spec_l3Uses.f k a0_0 l0_1 a1).bind fun t514 => (some t514)) else (some 0))) else (some 0)) = some r := H
 have A3 := am A30
 clear A30
 by_cases c4 : t512 = true
 rotate_left
 · replace c4 := Bool.eq_false_iff.mpr c4
   subst c4
   have H1 : (some 0) = some r := by rw [if_neg (show ¬ (false = true) by decide)] at H; exact H
   clear H
   have H := H1
   clear H1
   obtain rfl := Option.some.inj H
   go_enter Try.func28, Try.ntmps28
   go_wp2_with (first | ((with_reducible refine gate_dst (N := 2) rfl ?_); refine bx 38 #[.string a0_0, .slice A0_1 l0_1.length c0_1] ?_; intro gb511 hg w16 hbox hb; have BK511 := am (hbox); have GW511 := am (zn hg (zb HB)); have GE511 := am (zn hg (zb HB)); replace HB := am (below_step (zb HB) hb); clear hb hbox hg; have hcz17_0 := ce0 BK511; have hcz17_1 := ce1 BK511; have hfz17_0 := bfz BK511 0; have hfz17_1 := bfz BK511 1) | ((with_reducible refine gate_callee (f := 21) rfl ?_); refine gl Try.func21 6 #[.agg #[.string a0_0, .slice A0_1 l0_1.length c0_1]] rfl rfl rfl ?_; (with_reducible refine (spec_VolOk.calls k a0_0 _ _ l0_1 false _ ?side1 ?side2 A3.out).mono ?_); (case side1 => exact zc (Kd.C_below HR0_1.out HB.out)); (case side2 => exact HC0_1.out); rintro e w18 ⟨rfl, hb⟩; refine ⟨_, rfl, ?_⟩; replace BK511 := am (blk_below (zk BK511) hb); replace HB := am (below_step (zb HB) hb); (try clear hb); (try clear hb2); (try clear hk); (try clear hi)))
   go_ret
   exact ⟨zv, (zb HB)⟩
 subst c4
 have H1 : ((spec_l6In.f a1 1 8).bind fun t513 => (if t513 = true then ((spec_l3Uses.f k a0_0 l0_1 a1).bind fun t514 => (some t514)) else (some 0))) = some r := by rw [if_pos rfl] at H; exact H
 clear H
 have H := H1
 clear H1
 replace H := obs H
 obtain ⟨t513, A50, H⟩ := H
 replace H : (if t513 = true then ((spec_l3Uses.f k a0_0 l0_1 a1).bind fun t514 => (some t514)) else (some 0)) = some r := H
 have A5 := am A50
 clear A50
 by_cases c6 : t513 = true
 rotate_left
 · replace c6 := Bool.eq_false_iff.mpr c6
   subst c6
   have H1 : (some 0) = some r := by rw [if_neg (show ¬ (false = true) by decide)] at H; exact H
   clear H
   have H := H1
   clear H1
   obtain rfl := Option.some.inj H
   go_enter Try.func28, Try.ntmps28
   go_wp2_with (first | ((with_reducible refine gate_dst (N := 2) rfl ?_); refine bx 38 #[.string a0_0, .slice A0_1 l0_1.length c0_1] ?_; intro gb511 hg w13 hbox hb; have BK511 := am (hbox); have GW511 := am (zn hg (zb HB)); have GE511 := am (zn hg (zb HB)); replace HB := am (below_step (zb HB) hb); clear hb hbox hg; have hcz14_0 := ce0 BK511; have hcz14_1 := ce1 BK511; have hfz14_0 := bfz BK511 0; have hfz14_1 := bfz BK511 1) | ((with_reducible refine gate_callee (f := 21) rfl ?_); refine gl Try.func21 6 #[.agg #[.string a0_0, .slice A0_1 l0_1.length c0_1]] rfl rfl rfl ?_; (with_reducible refine (spec_VolOk.calls k a0_0 _ _ l0_1 true _ ?side1 ?side2 A3.out).mono ?_); (case side1 => exact zc (Kd.C_below HR0_1.out HB.out)); (case side2 => exact HC0_1.out); rintro e w15 ⟨rfl, hb⟩; refine ⟨_, rfl, ?_⟩; replace BK511 := am (blk_below (zk BK511) hb); replace HB := am (below_step (zb HB) hb); (try clear hb); (try clear hb2); (try clear hk); (try clear hi)) | (go_at_call 55; (with_reducible refine (spec_l6In.calls a1 1 8 false _ A5.out).mono ?_); rintro e w' ⟨rfl, ⟨nd, rfl⟩⟩))
   go_ret
   exact ⟨zv, (zb HB)⟩
 subst c6
 have H1 : ((spec_l3Uses.f k a0_0 l0_1 a1).bind fun t514 => (some t514)) = some r := by rw [if_pos rfl] at H; exact H
 clear H
 have H := H1
 clear H1
 replace H := obs H
 obtain ⟨t514, A70, H⟩ := H
 replace H : (some t514) = some r := H
 have A7 := am A70
 clear A70
 obtain rfl := Option.some.inj H
 go_enter Try.func28, Try.ntmps28
 go_wp2_with (first | ((with_reducible refine gate_dst (N := 2) rfl ?_); refine bx 38 #[.string a0_0, .slice A0_1 l0_1.length c0_1] ?_; intro gb511 hg w8 hbox hb; have BK511 := am (hbox); have GW511 := am (zn hg (zb HB)); have GE511 := am (zn hg (zb HB)); replace HB := am (below_step (zb HB) hb); clear hb hbox hg; have hcz9_0 := ce0 BK511; have hcz9_1 := ce1 BK511; have hfz9_0 := bfz BK511 0; have hfz9_1 := bfz BK511 1) | ((with_reducible refine gate_callee (f := 21) rfl ?_); refine gl Try.func21 6 #[.agg #[.string a0_0, .slice A0_1 l0_1.length c0_1]] rfl rfl rfl ?_; (with_reducible refine (spec_VolOk.calls k a0_0 _ _ l0_1 true _ ?side1 ?side2 A3.out).mono ?_); (case side1 => exact zc (Kd.C_below HR0_1.out HB.out)); (case side2 => exact HC0_1.out); rintro e w10 ⟨rfl, hb⟩; refine ⟨_, rfl, ?_⟩; replace BK511 := am (blk_below (zk BK511) hb); replace HB := am (below_step (zb HB) hb); (try clear hb); (try clear hb2); (try clear hk); (try clear hi)) | (go_at_call 55; (with_reducible refine (spec_l6In.calls a1 1 8 true _ A5.out).mono ?_); rintro e w' ⟨rfl, ⟨nd, rfl⟩⟩; have hcz11_0 := ce0 BK511; have hcz11_1 := ce1 BK511; have hfz11_0 := bfz BK511 0; have hfz11_1 := bfz BK511 1) | ((with_reducible refine gate_callee (f := 60) rfl ?_); refine gl Try.func60 15 #[.agg #[.string a0_0, .slice A0_1 l0_1.length c0_1], .int .i64 a1] rfl rfl rfl ?_; (with_reducible refine (spec_l3Uses.calls k a0_0 _ _ l0_1 a1 t514 _ ?side1 ?side2 A7.out).mono ?_); (case side1 => exact zc (Kd.C_below HR0_1.out (zb HB))); (case side2 => exact HC0_1.out); rintro e w12 ⟨rfl, hb⟩; refine ⟨_, rfl, ?_⟩; replace BK511 := am (blk_below (zk BK511) hb); replace HB := am (below_step (zb HB) hb); (try clear hb); (try clear hb2); (try clear hk); (try clear hi)))
 go_ret
 exact ⟨zv, (zb HB)⟩
end Go.Proofs.Ytooamacekmjpaaa.PFnVolCount
