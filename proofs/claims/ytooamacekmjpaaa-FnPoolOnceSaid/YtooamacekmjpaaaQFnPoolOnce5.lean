/- The walk: each function that the law comes to as a plain Lean function, and a proof that the Go code answers so. Written by this session's program over the kit's printer. -/
import Derived.Test.YtooamacekmjpaaaZ
import Derived.Test.YtooamacekmjpaaaQFnPoolOnce0
namespace Go.Proofs.Ytooamacekmjpaaa.PFnPoolOnce
open Go.RowKit Go.Proofs.YtooamacekmjpaaaW.PrintWords Go.Proofs.YtooamacekmjpaaaW.PrintLast Go.Proofs.YtooamacekmjpaaaW.PrintMore
attribute [local go_sem] max2_int min2_int max_two min_two max_three min_three max_four min_four   -- for this text's walks alone
set_option linter.unusedVariables false
set_option linter.unusedSimpArgs false
/-! ### impl_within: function 53 -/
def impl_within.f (a0 : Int) (a1 : Int) (a2 : Int) : Option (Bool) := if a0 ≥ a1 then (some (decide (a0 ≤ a2))) else (some false)
set_option maxHeartbeats 8000000 in
set_option maxRecDepth 100000 in
theorem impl_within.calls (a0 : Int) (a1 : Int) (a2 : Int) (r : Bool) (w : World) (h : impl_within.f a0 a1 a2 = some r) :
 Calls Try.prog 53 #[.int .i64 a0, .int .i64 a1, .int .i64 a2] w fun e w' => e = .returned (.bool r) ∧ Drawn0 w w' := by
 have H : (if a0 ≥ a1 then (some (decide (a0 ≤ a2))) else (some false)) = some r := h
 clear h
 by_cases c4 : a0 ≥ a1
 · rw [if_pos c4] at H
   have c4b0 : decide (a1 ≤ a0) = true := decide_eq_true c4
   clear c4
   obtain rfl := Option.some.inj H
   go_enter Try.func53, Try.ntmps53
   go_wp2
   go_ret
   exact ⟨by first | rfl | (simp; done) | (simp [*]; done), by repeat (first | exact Drawn0.refl _ | apply Drawn0.step)⟩
 rw [if_neg c4] at H
 have c4b0 : decide (a1 ≤ a0) = false := decide_eq_false c4
 clear c4
 obtain rfl := Option.some.inj H
 go_enter Try.func53, Try.ntmps53
 go_wp2
 go_ret
 exact ⟨by first | rfl | (simp; done) | (simp [*]; done), by repeat (first | exact Drawn0.refl _ | apply Drawn0.step)⟩
/-! ### impl_isName: function 54 -/
def impl_isName.f (a0 : ByteArray) : Option (Bool) := if a0.toList = ([65] : List UInt8) then (some true) else (if a0.toList = ([66] : List UInt8) then (some true) else (if a0.toList = ([67] : List UInt8) then (some true) else (some (a0.toList == ([68] : List UInt8)))))
set_option maxHeartbeats 8000000 in
set_option maxRecDepth 100000 in
theorem impl_isName.calls (a0 : ByteArray) (r : Bool) (w : World) (h : impl_isName.f a0 = some r) :
 Calls Try.prog 54 #[.string a0] w fun e w' => e = .returned (.bool r) ∧ Drawn0 w w' := by
 have H : (if a0.toList = ([65] : List UInt8) then (some true) else (if a0.toList = ([66] : List UInt8) then (some true) else (if a0.toList = ([67] : List UInt8) then (some true) else (some (a0.toList == ([68] : List UInt8)))))) = some r := h
 clear h
 by_cases c2 : a0.toList = ([65] : List UInt8)
 · rw [if_pos c2] at H
   have c2b0 : (a0.toList == ([65] : List UInt8)) = true := beq_iff_eq.mpr c2
   have c2b1 : (a0.toList != ([65] : List UInt8)) = false := bne_eq_false_iff_eq.mpr c2
   clear c2
   obtain rfl := Option.some.inj H
   go_enter Try.func54, Try.ntmps54
   go_wp2
   go_ret
   exact ⟨by first | rfl | (simp; done) | (simp [*]; done), by repeat (first | exact Drawn0.refl _ | apply Drawn0.step)⟩
 rw [if_neg c2] at H
 have c2b0 : (a0.toList == ([65] : List UInt8)) = false := beq_eq_false_iff_ne.mpr c2
 have c2b1 : (a0.toList != ([65] : List UInt8)) = true := bne_iff_ne.mpr c2
 by_cases c3 : a0.toList = ([66] : List UInt8)
 · rw [if_pos c3] at H
   have c3b0 : (a0.toList == ([66] : List UInt8)) = true := beq_iff_eq.mpr c3
   have c3b1 : (a0.toList != ([66] : List UInt8)) = false := bne_eq_false_iff_eq.mpr c3
   clear c3
   obtain rfl := Option.some.inj H
   go_enter Try.func54, Try.ntmps54
   go_wp2
   go_ret
   exact ⟨by first | rfl | (simp; done) | (simp [*]; done), by repeat (first | exact Drawn0.refl _ | apply Drawn0.step)⟩
 rw [if_neg c3] at H
 have c3b0 : (a0.toList == ([66] : List UInt8)) = false := beq_eq_false_iff_ne.mpr c3
 have c3b1 : (a0.toList != ([66] : List UInt8)) = true := bne_iff_ne.mpr c3
 by_cases c4 : a0.toList = ([67] : List UInt8)
 · rw [if_pos c4] at H
   have c4b0 : (a0.toList == ([67] : List UInt8)) = true := beq_iff_eq.mpr c4
   have c4b1 : (a0.toList != ([67] : List UInt8)) = false := bne_eq_false_iff_eq.mpr c4
   clear c4
   obtain rfl := Option.some.inj H
   go_enter Try.func54, Try.ntmps54
   go_wp2
   go_ret
   exact ⟨by first | rfl | (simp; done) | (simp [*]; done), by repeat (first | exact Drawn0.refl _ | apply Drawn0.step)⟩
 rw [if_neg c4] at H
 have c4b0 : (a0.toList == ([67] : List UInt8)) = false := beq_eq_false_iff_ne.mpr c4
 have c4b1 : (a0.toList != ([67] : List UInt8)) = true := bne_iff_ne.mpr c4
 obtain rfl := Option.some.inj H
 go_enter Try.func54, Try.ntmps54
 go_wp2
 go_ret
 exact ⟨by first | rfl | (simp; done) | (simp [*]; done), by repeat (first | exact Drawn0.refl _ | apply Drawn0.step)⟩
/-! ### impl_VolOk: function 20 -/
def impl_VolOk.l0 : Nat → List Int → Int → Int → ByteArray → List Int → Option (Bool)
 | 0, _, _, _, _, _ => none
 | k + 1, x6, x7, x8, x131000, x131001 => if x8 < x7 then (if 0 ≤ x8 then (if x8 < (x6.length : Int) then ((impl_within.f (rd x6 x8) 0 8).bind fun t132 => (if t132 = true then (impl_VolOk.l0 k x6 x7 (wrap64 (x8 + 1)) x131000 x131001) else (some false))) else (none)) else (none)) else ((impl_isName.f x131000).bind fun t133 => (if t133 = true then ((impl_within.f (x131001.length : Int) 1 6).bind fun t134 => (some t134)) else (some false)))
def impl_VolOk.f (k : Nat) (a0_0 : ByteArray) (l0_1 : List Int) : Option (Bool) := impl_VolOk.l0 k l0_1 (l0_1.length : Int) 0 a0_0 l0_1
theorem impl_VolOk.mono_l : ∀ k, (∀ y0 y1 y2 y3 y4, LeO (impl_VolOk.l0 k y0 y1 y2 y3 y4) (impl_VolOk.l0 (k + 1) y0 y1 y2 y3 y4))
 | 0 => fun _ _ _ _ _ r h => by simp [impl_VolOk.l0] at h
 | k + 1 => by
  have ih0 := impl_VolOk.mono_l k
  intro y0 y1 y2 y3 y4
  unfold impl_VolOk.l0
  exact mo1 ih0
theorem impl_VolOk.mono : ∀ a0 a1 k, LeO (impl_VolOk.f k a0 a1) (impl_VolOk.f (k + 1) a0 a1) := by
 intro a0 a1 k
 have ih0 := impl_VolOk.mono_l k
 unfold impl_VolOk.f
 exact mo1 ih0
set_option maxHeartbeats 8000000 in
set_option maxRecDepth 100000 in
theorem impl_VolOk.calls (k : Nat) (a0_0 : ByteArray) (A0_1 : Option Addr) (c0_1 : Nat) (l0_1 : List Int) (r : Bool) (w : World) (hr0_1 : Kd.C (Kd.int .i64) w A0_1 l0_1.length l0_1) (hc0_1 : l0_1.length ≤ c0_1) (h : impl_VolOk.f k a0_0 l0_1 = some r) :
 Calls Try.prog 20 #[.agg #[.string a0_0, .slice A0_1 l0_1.length c0_1]] w fun e w' => e = .returned (.bool r) ∧ Below w.heap.size w w' := by
 have hu38 := Try.underlying38
 have HR0_1 := am hr0_1
 have HC0_1 := am hc0_1
 clear hr0_1 hc0_1
 have HB := am (Below.refl w.heap.size w)
 have H : (impl_VolOk.l0 k l0_1 (l0_1.length : Int) 0 a0_0 l0_1) = some r := h
 clear h
 have H' := am H
 clear H
 go_enter Try.func20, Try.ntmps20
 go_wp2_with (first | ((with_reducible refine gate_dst (N := 1) rfl ?_); (try (refine gate_guard (by rfl) ?_; dsimp only)); refine bx 38 #[.string a0_0, .slice A0_1 l0_1.length c0_1] ?_; intro gb130 hg w2 hbox hb; have BK130 := am (hbox); have GW130 := am (zn hg (zb HB)); have GE130 := am (zn hg (zb HB)); replace HB := am (below_step (zb HB) hb); clear hb hbox hg; have hcz3_0 := ce0 BK130; have hcz3_1 := ce1 BK130; have hfz3_0 := bfz BK130 0; have hfz3_1 := bfz BK130 1))
 go_loopg [8] k (fun kq v8 w' => ∃ (x8_1 : Int), v8 = .int .i64 x8_1 ∧ Aside0 (impl_VolOk.l0 kq l0_1 (l0_1.length : Int) x8_1 a0_0 l0_1 = some r) ∧ Aside0 (kq ≤ k) ∧ Aside0 (w'.heap[gb130]? = some (.cells #[.string a0_0, (.slice A0_1 l0_1.length c0_1)] 38 (0, 0))) ∧ Aside0 (Below w.heap.size w w'))
 case atStart => exact ⟨(0), ze, H', ⟨Nat.le_refl _⟩, ⟨zk BK130⟩, ⟨zb HB⟩⟩
 case round =>
  clear H'
  try clear c2
  try clear p2
  try clear hcz3_0
  try clear hcz3_1
  try clear hfz3_0
  try clear hfz3_1
  obtain ⟨x8_1, rfl, HA, HK1, BK130, HB⟩ := hrel
  cases gk with
  | zero => exact absurd HA.out (by simp [impl_VolOk.l0])
  | succ k1 =>
   have H := HA.out
   clear HA
   simp only [impl_VolOk.l0] at H
   by_cases c4 : x8_1 < (l0_1.length : Int)
   rotate_left
   · rw [if_neg c4] at H
     have c4b0 : decide (x8_1 < (l0_1.length : Int)) = false := decide_eq_false c4
     clear c4
     replace H := obs H
     obtain ⟨t133, A90, H⟩ := H
     replace H : (if t133 = true then ((impl_within.f (l0_1.length : Int) 1 6).bind fun t134 => (some t134)) else (some false)) = some r := H
     have A9 := am A90
     clear A90
     by_cases c10 : t133 = true
     rotate_left
     · replace c10 := Bool.eq_false_iff.mpr c10
       subst c10
       have H1 : (some false) = some r := by rw [if_neg (show ¬ (false = true) by decide)] at H; exact H
       clear H
       have H := H1
       clear H1
       obtain rfl := Option.some.inj H
       have hcz13_0 := ce0 BK130
       have hcz13_1 := ce1 BK130
       have hfz13_0 := bfz BK130 0
       have hfz13_1 := bfz BK130 1
       go_wp2_with (first | ((with_reducible refine gate_callee (f := 54) rfl ?_); refine gl Try.func54 18 #[.string a0_0] rfl rfl rfl ?_; (with_reducible refine (impl_isName.calls a0_0 false _ A9.out).mono ?_); rintro e w' ⟨rfl, ⟨nd, rfl⟩⟩; refine ⟨_, rfl, ?_⟩))
       go_ret
       exact ⟨zv, (zb HB)⟩
     subst c10
     have H1 : ((impl_within.f (l0_1.length : Int) 1 6).bind fun t134 => (some t134)) = some r := by rw [if_pos rfl] at H; exact H
     clear H
     have H := H1
     clear H1
     replace H := obs H
     obtain ⟨t134, A110, H⟩ := H
     replace H : (some t134) = some r := H
     have A11 := am A110
     clear A110
     obtain rfl := Option.some.inj H
     have hcz12_0 := ce0 BK130
     have hcz12_1 := ce1 BK130
     have hfz12_0 := bfz BK130 0
     have hfz12_1 := bfz BK130 1
     go_wp2_with (first | ((with_reducible refine gate_callee (f := 54) rfl ?_); refine gl Try.func54 18 #[.string a0_0] rfl rfl rfl ?_; (with_reducible refine (impl_isName.calls a0_0 true _ A9.out).mono ?_); rintro e w' ⟨rfl, ⟨nd, rfl⟩⟩; refine ⟨_, rfl, ?_⟩) | (go_at_call 53; (with_reducible refine (impl_within.calls (l0_1.length : Int) 1 6 t134 _ A11.out).mono ?_); rintro e w' ⟨rfl, ⟨nd, rfl⟩⟩))
     go_ret
     exact ⟨zv, (zb HB)⟩
   rw [if_pos c4] at H
   have c4b0 : decide (x8_1 < (l0_1.length : Int)) = true := decide_eq_true c4
   clear c4
   by_cases c5 : 0 ≤ x8_1
   rotate_left
   · rw [if_neg c5] at H
     exact absurd H (by simp)
   rw [if_pos c5] at H
   have c5b0 : decide (0 ≤ x8_1) = true := decide_eq_true c5
   clear c5
   by_cases c6 : x8_1 < (l0_1.length : Int)
   rotate_left
   · rw [if_neg c6] at H
     exact absurd H (by simp)
   rw [if_pos c6] at H
   have c6b0 : decide (x8_1 < (l0_1.length : Int)) = true := decide_eq_true c6
   clear c6
   replace H := obs H
   obtain ⟨t132, A70, H⟩ := H
   replace H : (if t132 = true then (impl_VolOk.l0 k1 l0_1 (l0_1.length : Int) (wrap64 (x8_1 + 1)) a0_0 l0_1) else (some false)) = some r := H
   have A7 := am A70
   clear A70
   by_cases c8 : t132 = true
   · subst c8
     have H1 : (impl_VolOk.l0 k1 l0_1 (l0_1.length : Int) (wrap64 (x8_1 + 1)) a0_0 l0_1) = some r := by rw [if_pos rfl] at H; exact H
     clear H
     have H := H1
     clear H1
     have H' := am H
     clear H
     have p131 : 0 ≤ (x8_1 : Int) := of_decide_eq_true zl
     have q131 : x8_1 < (l0_1.length : Int) := of_decide_eq_true zl
     obtain ⟨ad131, e131, hx131_0⟩ := Kd.at_int HR0_1.out x8_1 p131 q131
     cases e131
     replace hx131_0 := hcx HB hx131_0
     replace p131 := eq_true p131
     replace q131 := eq_true q131
     go_wp2_with (first | ((with_reducible refine gate_callee (f := 53) rfl ?_); refine gl Try.func53 13 #[.int .i64 (rd l0_1 x8_1), .int .i64 0, .int .i64 8] rfl rfl rfl ?_; (with_reducible refine (impl_within.calls (rd l0_1 x8_1) 0 8 true _ A7.out).mono ?_); rintro e w' ⟨rfl, ⟨nd, rfl⟩⟩; refine ⟨_, rfl, ?_⟩))
     go_roundg k1
     case measure => have := HK1.out; omega
     case rel => exact ⟨(wrap64 (x8_1 + 1)), ze, H', ⟨by have := HK1.out; omega⟩, ⟨zk BK130⟩, ⟨zb HB⟩⟩
   replace c8 := Bool.eq_false_iff.mpr c8
   subst c8
   have H1 : (some false) = some r := by rw [if_neg (show ¬ (false = true) by decide)] at H; exact H
   clear H
   have H := H1
   clear H1
   obtain rfl := Option.some.inj H
   have p131 : 0 ≤ (x8_1 : Int) := of_decide_eq_true zl
   have q131 : x8_1 < (l0_1.length : Int) := of_decide_eq_true zl
   obtain ⟨ad131, e131, hx131_0⟩ := Kd.at_int HR0_1.out x8_1 p131 q131
   cases e131
   replace hx131_0 := hcx HB hx131_0
   replace p131 := eq_true p131
   replace q131 := eq_true q131
   go_wp2_with (first | ((with_reducible refine gate_callee (f := 53) rfl ?_); refine gl Try.func53 13 #[.int .i64 (rd l0_1 x8_1), .int .i64 0, .int .i64 8] rfl rfl rfl ?_; (with_reducible refine (impl_within.calls (rd l0_1 x8_1) 0 8 false _ A7.out).mono ?_); rintro e w' ⟨rfl, ⟨nd, rfl⟩⟩; refine ⟨_, rfl, ?_⟩))
   go_ret
   exact ⟨zv, (zb HB)⟩
/-! ### impl_TextOk: function 68 -/
def impl_TextOk.l0 : Nat → ByteArray → Int → Int → Option (Bool)
 | 0, _, _, _ => none
 | k + 1, x0, x5, x6 => if x6 < x5 then (if 0 ≤ x6 then (if x6 < (x0.size : Int) then ((impl_within.f (wrap64 (bt x0 x6)) 97 100).bind fun t135 => (if t135 = true then (impl_TextOk.l0 k x0 x5 (wrap64 (x6 + 1))) else (some false))) else (none)) else (none)) else (some (decide ((x0.size : Int) ≤ 4)))
def impl_TextOk.f (k : Nat) (a0 : ByteArray) : Option (Bool) := impl_TextOk.l0 k a0 (a0.size : Int) 0
theorem impl_TextOk.mono_l : ∀ k, (∀ y0 y1 y2, LeO (impl_TextOk.l0 k y0 y1 y2) (impl_TextOk.l0 (k + 1) y0 y1 y2))
 | 0 => fun _ _ _ r h => by simp [impl_TextOk.l0] at h
 | k + 1 => by
  have ih0 := impl_TextOk.mono_l k
  intro y0 y1 y2
  unfold impl_TextOk.l0
  exact mo1 ih0
theorem impl_TextOk.mono : ∀ a0 k, LeO (impl_TextOk.f k a0) (impl_TextOk.f (k + 1) a0) := by
 intro a0 k
 have ih0 := impl_TextOk.mono_l k
 unfold impl_TextOk.f
 exact mo1 ih0
set_option maxHeartbeats 8000000 in
set_option maxRecDepth 100000 in
theorem impl_TextOk.calls (k : Nat) (a0 : ByteArray) (r : Bool) (w : World) (h : impl_TextOk.f k a0 = some r) :
 Calls Try.prog 68 #[.string a0] w fun e w' => e = .returned (.bool r) ∧ Drawn0 w w' := by
 have H : (impl_TextOk.l0 k a0 (a0.size : Int) 0) = some r := h
 clear h
 have H' := am H
 clear H
 go_enter Try.func68, Try.ntmps68
 go_wp2
 go_loopg [6] k (fun kq v6 w' => ∃ (x6_1 : Int), v6 = .int .i64 x6_1 ∧ Aside0 (impl_TextOk.l0 kq a0 (a0.size : Int) x6_1 = some r) ∧ Aside0 (kq ≤ k) ∧ Drawn0 w w')
 case atStart => exact ⟨(0), ze, H', ⟨Nat.le_refl _⟩, by repeat (first | exact Drawn0.refl _ | apply Drawn0.step)⟩
 case round =>
  clear H'
  obtain ⟨x6_1, rfl, HA, HK1, ⟨m1, rfl⟩⟩ := hrel
  cases gk with
  | zero => exact absurd HA.out (by simp [impl_TextOk.l0])
  | succ k1 =>
   have H := HA.out
   clear HA
   simp only [impl_TextOk.l0] at H
   by_cases c2 : x6_1 < (a0.size : Int)
   rotate_left
   · rw [if_neg c2] at H
     have c2b0 : decide (x6_1 < (a0.size : Int)) = false := decide_eq_false c2
     clear c2
     obtain rfl := Option.some.inj H
     go_wp2
     go_ret
     exact ⟨by first | rfl | (simp; done) | (simp [*]; done), by repeat (first | exact Drawn0.refl _ | apply Drawn0.step)⟩
   rw [if_pos c2] at H
   have c2b0 : decide (x6_1 < (a0.size : Int)) = true := decide_eq_true c2
   clear c2
   by_cases c3 : 0 ≤ x6_1
   rotate_left
   · rw [if_neg c3] at H
     exact absurd H (by simp)
   rw [if_pos c3] at H
   have c3b0 : decide (0 ≤ x6_1) = true := decide_eq_true c3
   clear c3
   by_cases c4 : x6_1 < (a0.size : Int)
   rotate_left
   · rw [if_neg c4] at H
     exact absurd H (by simp)
   rw [if_pos c4] at H
   have c4b0 : decide (x6_1 < (a0.size : Int)) = true := decide_eq_true c4
   clear c4
   replace H := obs H
   obtain ⟨t135, A60, H⟩ := H
   replace H : (if t135 = true then (impl_TextOk.l0 k1 a0 (a0.size : Int) (wrap64 (x6_1 + 1))) else (some false)) = some r := H
   have A6 := am A60
   clear A60
   by_cases c7 : t135 = true
   · subst c7
     have H1 : (impl_TextOk.l0 k1 a0 (a0.size : Int) (wrap64 (x6_1 + 1))) = some r := by rw [if_pos rfl] at H; exact H
     clear H
     have H := H1
     clear H1
     have H' := am H
     clear H
     have p5 : 0 ≤ (x6_1 : Int) := of_decide_eq_true zl
     have q5 : x6_1 < (a0.size : Int) := of_decide_eq_true zl
     have hx5 := bt_at a0 x6_1
     replace p5 := eq_true p5
     replace q5 := eq_true q5
     go_wp2_with (first | ((with_reducible refine gate_callee (f := 53) rfl ?_); refine gl Try.func53 13 #[.int .i64 (wrap64 (bt a0 x6_1)), .int .i64 97, .int .i64 100] rfl rfl rfl ?_; (with_reducible refine (impl_within.calls (wrap64 (bt a0 x6_1)) 97 100 true _ A6.out).mono ?_); rintro e w' ⟨rfl, ⟨nd, rfl⟩⟩; refine ⟨_, rfl, ?_⟩))
     go_roundg k1
     case measure => have := HK1.out; omega
     case rel => exact ⟨(wrap64 (x6_1 + 1)), ze, H', ⟨by have := HK1.out; omega⟩, by repeat (first | exact Drawn0.refl _ | apply Drawn0.step)⟩
   replace c7 := Bool.eq_false_iff.mpr c7
   subst c7
   have H1 : (some false) = some r := by rw [if_neg (show ¬ (false = true) by decide)] at H; exact H
   clear H
   have H := H1
   clear H1
   obtain rfl := Option.some.inj H
   have p5 : 0 ≤ (x6_1 : Int) := of_decide_eq_true zl
   have q5 : x6_1 < (a0.size : Int) := of_decide_eq_true zl
   have hx5 := bt_at a0 x6_1
   replace p5 := eq_true p5
   replace q5 := eq_true q5
   go_wp2_with (first | ((with_reducible refine gate_callee (f := 53) rfl ?_); refine gl Try.func53 13 #[.int .i64 (wrap64 (bt a0 x6_1)), .int .i64 97, .int .i64 100] rfl rfl rfl ?_; (with_reducible refine (impl_within.calls (wrap64 (bt a0 x6_1)) 97 100 false _ A6.out).mono ?_); rintro e w' ⟨rfl, ⟨nd, rfl⟩⟩; refine ⟨_, rfl, ?_⟩))
   go_ret
   exact ⟨by first | rfl | (simp; done) | (simp [*]; done), by repeat (first | exact Drawn0.refl _ | apply Drawn0.step)⟩
/-! ### impl_Slot_77: function 77 -/
instance : Inhabited S55 := ⟨z55⟩
/-- A slot's two cells. -/
def encSlot (x : S55) : List Value := [.string x.f0, .int .i64 x.f1]
theorem slot_K {w : World} {x : S55} {cs : List Value} (h : (k55).K w x cs) : cs = encSlot x := by
 obtain ⟨c0, c1, rfl, h0, h1⟩ := h
 have e0 : c0 = [.string x.f0] := h0
 have e1 : c1 = [.int .i64 x.f1] := h1
 rw [e0, e1]
 rfl
/-- A row of slots that is read, cell by cell. -/
theorem slots_cells {w : World} {A : Option Addr} {l : List S55} (h : Kd.C k55 w A l.length l) (hn : 0 < l.length) :
 ∃ b off, A = some ⟨b, off, none⟩ ∧ b < w.heap.size ∧ ∀ j, j < l.length → ∀ i v, (encSlot l[j]!)[i]? = some v → w.cell? ⟨b, off + j * 2 + i, none⟩ = some v := by
 obtain ⟨ad, e, hc⟩ := h.2.2 hn
 have get : ∀ j, j < l.length → ∀ i v, (encSlot l[j]!)[i]? = some v → w.cell? (ad.add (j * 2 + i)) = some v := by
  intro j hj i v hi
  obtain ⟨c, hl, hk, hcell⟩ := hc j l[j]! (by rw [List.getElem?_eq_getElem hj]; simp [hj])
  rw [slot_K hk] at hcell
  exact hcell i v hi
 obtain ⟨b, off, spot⟩ := ad
 have h0 := get 0 hn 0 (.string (l[0]!).f0) rfl
 have hs : spot = none := by
  cases spot with
  | none => rfl
  | some q =>
   exfalso
   simp only [Nat.zero_mul, Nat.add_zero, Addr.add, if_pos] at h0
   unfold World.cell? at h0
   revert h0
   cases w.heap[b]? with
   | none => simp
   | some o => cases o <;> simp
 subst hs
 refine ⟨b, off, e, ?_, fun j hj i v hi => ?_⟩
 · have := World.block_lt_of_cell? w _ h0
   simpa [Addr.add_lit] using this
 have := get j hj i v hi
 rw [Addr.add_lit] at this
 rw [Nat.add_assoc]
 exact this
/-- slices.IndexFunc over slots, nil too, whatever predicate. -/
theorem idx_calls (p : S55 → Bool) (g : Nat) (lb : Array Value) (eg : ∀ args w, (callFunc g args).run Try.prog w = .ok (.enter g args) w) (A0 : Option Addr) (c0 : Nat) (l0 : List S55) (w : World)
 (hr0 : Kd.C k55 w A0 l0.length l0) (hp : PredBelow Try.prog g lb (fun x => .agg (encSlot x).toArray) p w) :
 Calls Try.prog 77 #[.slice A0 l0.length c0, .func (.func g) #[] lb] w fun e w' => e = .returned (.int .i64 (Lib.idxBy (fun _ y => p y) l0 default)) ∧ Below w.heap.size w w' := by
 by_cases hn : 0 < l0.length
 · obtain ⟨b, off, rfl, hb, hc⟩ := slots_cells hr0 hn
   have hcon := AnyQ.slices_IndexFunc Go.Proofs.YtooamacekmjpaaaH.idxLay 2 Try.isAgg55 Try.sizeOf55 encSlot (fun _ => rfl) p g lb eg b off l0.length c0 l0 w hp (Nat.le_refl _) hr0.2.1 hb hc
   rw [List.take_length] at hcon
   exact hcon
 obtain rfl : l0 = [] := List.eq_nil_of_length_eq_zero (by omega)
 clear hp hr0 hn
 go_enter Try.func77, Try.ntmps77
 go_wp2
 go_loopg [8] 0 (fun gg v8 w' => v8 = .int .i64 0 ∧ w' = w)
 case atStart => exact ⟨rfl, rfl⟩
 case round =>
  obtain ⟨rfl, rfl⟩ := hrel
  go_wp2
  go_ret
  exact ⟨rfl, Below.refl _ _⟩
/-! ### impl_Slot_69: function 69 -/
theorem con_calls (p : S55 → Bool) (g : Nat) (lb : Array Value) (eg : ∀ args w, (callFunc g args).run Try.prog w = .ok (.enter g args) w) (A0 : Option Addr) (c0 : Nat) (l0 : List S55) (w : World)
 (hr0 : Kd.C k55 w A0 l0.length l0) (hp : PredBelow Try.prog g lb (fun x => .agg (encSlot x).toArray) p w) :
 Calls Try.prog 69 #[.slice A0 l0.length c0, .func (.func g) #[] lb] w fun e w' => e = .returned (.bool (l0.any p)) ∧ Below w.heap.size w w' := by
 have hcon := idx_calls p g lb eg A0 c0 l0 w hr0 hp
 have hE := Lib.idxBy_nonneg_iff (fun _ y => p y) l0 default
 clear hp hr0
 generalize Lib.idxBy (fun _ y => p y) l0 default = x at hcon hE
 have HE := am hE
 clear hE
 go_enter Try.func69, Try.ntmps69
 go_wp2_with (go_at_call 77; refine hcon.mono ?_; rintro e w' ⟨rfl, hb'⟩)
 go_ret
 exact ⟨by rw [← HE.out]; rfl, hb'⟩
/-! ### impl_StoreOk: function 45 -/
/-- 'o.Text == x.Text', x in the block B of the caller's. -/
theorem ok_pred (t : ByteArray) (u : Int) (B : Nat) (w : World) (hB : B < w.heap.size) (hcell : w.cell? ⟨B, 0, none⟩ = some (.string t)) :
 PredBelow Try.prog 70 #[.pointer (some ⟨B, 0, none⟩)] (fun x => .agg (encSlot x).toArray) (fun x => x.f0.toList == t.toList) w := fun W x hb => by
 have hc : W.cell? ⟨B, 0, none⟩ = some (.string t) := (hb.cell (p := ⟨B, 0, none⟩) hB).trans hcell
 have hBW : B < W.heap.size := Nat.lt_of_lt_of_le hB hb.size
 have hne : B ≠ W.heap.size := by omega
 show Calls Try.prog 70 #[.agg #[.string x.f0, .int .i64 x.f1], .pointer (some ⟨B, 0, none⟩)] W _
 go_enter Try.func70, Try.ntmps70
 go_wp2
 all_goals (go_ret; exact ⟨by first | rfl | simp_all, hb.alloc hb.size _⟩)
def impl_StoreOk.l0 : Nat → List (S55) → Int → Option (Bool)
 | 0, _, _ => none
 | k + 1, x0, x7 => if x7 < (x0.length : Int) then (if 0 ≤ x7 then ((impl_TextOk.f k ((rd_T55 x0 x7).f0)).bind fun t1 => (if t1 = true then ((impl_within.f ((rd_T55 x0 x7).f1) 0 99).bind fun t2 => (if t2 = true then (if ((((rd_T55 x0 x7).f0).toList == ([] : List UInt8)) != (((rd_T55 x0 x7).f1) == 0)) = true then (some false) else (if (((rd_T55 x0 x7).f0).toList == ([] : List UInt8)) = true then (impl_StoreOk.l0 k x0 (wrap64 (x7 + 1))) else (if (x0.take x7.toNat).any (fun o => o.f0.toList == ((rd_T55 x0 x7).f0).toList) = true then (some false) else (impl_StoreOk.l0 k x0 (wrap64 (x7 + 1)))))) else (some false))) else (some false))) else (none)) else (some ((x0.length : Int) == 8))
def impl_StoreOk.f (k : Nat) (l0 : List (S55)) : Option (Bool) := impl_StoreOk.l0 k l0 0
theorem impl_StoreOk.mono_l : ∀ k, (∀ y0 y1, LeO (impl_StoreOk.l0 k y0 y1) (impl_StoreOk.l0 (k + 1) y0 y1))
 | 0 => fun _ _ r h => by simp [impl_StoreOk.l0] at h
 | k + 1 => by
  have ih0 := impl_StoreOk.mono_l k
  intro y0 y1
  unfold impl_StoreOk.l0
  exact mo2 ih0 @impl_TextOk.mono
theorem impl_StoreOk.mono : ∀ a0 k, LeO (impl_StoreOk.f k a0) (impl_StoreOk.f (k + 1) a0) := by
 intro a0 k
 have ih0 := impl_StoreOk.mono_l k
 unfold impl_StoreOk.f
 exact ih0 _ _
set_option maxHeartbeats 8000000 in
set_option maxRecDepth 100000 in
theorem impl_StoreOk.calls (k : Nat) (A0 : Option Addr) (c0 : Nat) (l0 : List (S55)) (r : Bool) (w : World) (hr0 : Kd.C k55 w A0 l0.length l0) (hc0 : l0.length ≤ c0) (h : impl_StoreOk.f k l0 = some r) :
 Calls Try.prog 45 #[.slice A0 l0.length c0] w fun e w' => e = .returned (.bool r) ∧ Below w.heap.size w w' := by
 have HR0 := am hr0
 have HC0 := am hc0
 clear hr0 hc0
 have HB := am (Below.refl w.heap.size w)
 have H : (impl_StoreOk.l0 k l0 0) = some r := h
 clear h
 have H' := am H
 clear H
 have EG := am (show ∀ args w, (callFunc 70 args).run Try.prog w = .ok (.enter 70 args) w from enters_of Try.func70 (by kernel_rfl) rfl)
 obtain ⟨i0, hi0, _, hsz, _⟩ := info_parts (show (Try.prog.info? 55).map (fun i => (i.zero, i.size, i.bytes)) = some (some (.agg #[(.string ⟨#[]⟩), (.int .i64 0)]), 2, 24) from by kernel_rfl)
 have HCUT := am (fun (x : Int) (h0 : 0 ≤ x) (h1 : x ≤ (l0.length : Int)) => cut_to (P := Try.prog) 28 55 .i64 Try.underlying28 hi0 A0 l0.length c0 x h0 h1 HC0.out)
 clear hi0 hsz
 go_enter Try.func45, Try.ntmps45
 go_wp2
 go_loopg [7] k (fun kq v7 w' => ∃ (x7_1 : Int), v7 = .int .i64 x7_1 ∧ Aside0 (impl_StoreOk.l0 kq l0 x7_1 = some r) ∧ Aside0 (kq ≤ k) ∧ Aside0 (Below w.heap.size w w'))
 case atStart => exact ⟨(0), rfl, H', ⟨Nat.le_refl _⟩, HB⟩
 case round =>
  clear H'
  obtain ⟨x7_1, rfl, HA, HK1, HB⟩ := hrel
  cases gk with
  | zero => exact absurd HA.out (by simp [impl_StoreOk.l0])
  | succ k1 =>
   have H := HA.out
   clear HA
   simp only [impl_StoreOk.l0] at H
   by_cases c3 : x7_1 < (l0.length : Int)
   rotate_left
   · rw [if_neg c3] at H
     have c3b0 : decide (x7_1 < (l0.length : Int)) = false := decide_eq_false c3
     clear c3
     obtain rfl := Option.some.inj H
     go_wp2
     go_ret
     exact ⟨by first | rfl | (simp; done) | (simp [*]; done), HB.out⟩
   rw [if_pos c3] at H
   by_cases c4 : 0 ≤ x7_1
   rotate_left
   · rw [if_neg c4] at H
     exact absurd H (by simp)
   rw [if_pos c4] at H
   obtain ⟨ad, e, hx0, hx1⟩ := at_T55 HR0.out x7_1 c4 c3
   cases e
   have hcut := HCUT.out x7_1 c4 (Int.le_of_lt c3)
   replace hx0 := hcx HB hx0
   replace hx1 := hcx HB hx1
   have HTK := am (Kd.C_below (Kd.C_take (m := x7_1.toNat) HR0.out (by omega)) HB.out)
   have HTL := am (show (l0.take x7_1.toNat).length = x7_1.toNat from by rw [List.length_take]; omega)
   have c3b0 : decide (x7_1 < (l0.length : Int)) = true := decide_eq_true c3
   have c4b0 : decide (0 ≤ x7_1) = true := decide_eq_true c4
   have HCON : Aside0 (∀ (u : Int) (W : World) (B : Nat), Below w.heap.size w W → B < W.heap.size → W.cell? ⟨B, 0, none⟩ = some (.string (rd_T55 l0 x7_1).f0) → Calls Try.prog 69 #[.slice (some ad) x7_1.toNat c0, .func (.func 70) #[] #[.pointer (some ⟨B, 0, none⟩)]] W fun e w' => e = .returned (.bool ((l0.take x7_1.toNat).any (fun o => o.f0.toList == ((rd_T55 l0 x7_1).f0).toList))) ∧ Below W.heap.size W w') := ⟨fun u W B hbW hBW hcW => by
    have := con_calls (fun o => o.f0.toList == ((rd_T55 l0 x7_1).f0).toList) 70 #[.pointer (some ⟨B, 0, none⟩)] EG.out (some ad) c0 (l0.take x7_1.toNat) W (Kd.C_below (Kd.C_take (m := x7_1.toNat) HR0.out (by omega)) hbW) (ok_pred _ u B W hBW hcW)
    rw [HTL.out] at this
    exact this⟩
   generalize hg0 : (rd_T55 l0 x7_1).f0 = g0 at H hx0 HCON
   generalize hg1 : (rd_T55 l0 x7_1).f1 = g1 at H hx1
   clear hg0 hg1
   replace H := obs H
   obtain ⟨t1, A1, H⟩ := H
   have A1' := am A1
   clear A1 c3 c4
   have p4 : 0 ≤ x7_1 := of_decide_eq_true c4b0
   have q4 : x7_1 < (l0.length : Int) := of_decide_eq_true c3b0
   replace p4 := eq_true p4
   replace q4 := eq_true q4
   cases t1 with
   | false =>
    rw [if_neg (by decide)] at H
    obtain rfl := Option.some.inj H
    go_wp2_with (first | (go_at_call 68; (with_reducible refine (impl_TextOk.calls k1 g0 false _ A1'.out).mono ?_); rintro e w' ⟨rfl, ⟨nd, rfl⟩⟩))
    go_ret
    exact ⟨by first | rfl | (simp; done) | (simp [*]; done), (zb HB)⟩
   | true =>
    rw [if_pos rfl] at H
    replace H := obs H
    obtain ⟨t2, A2, H⟩ := H
    have A2' := am A2
    clear A2
    cases t2 with
    | false =>
     rw [if_neg (by decide)] at H
     obtain rfl := Option.some.inj H
     go_wp2_with (first | (go_at_call 68; (with_reducible refine (impl_TextOk.calls k1 g0 true _ A1'.out).mono ?_); rintro e w' ⟨rfl, ⟨nd, rfl⟩⟩) | (go_at_call 53; (with_reducible refine (impl_within.calls g1 0 99 false _ A2'.out).mono ?_); rintro e w' ⟨rfl, ⟨nd, rfl⟩⟩))
     go_ret
     exact ⟨by first | rfl | (simp; done) | (simp [*]; done), (zb HB)⟩
    | true =>
     rw [if_pos rfl] at H
     obtain ⟨be, hbe⟩ : ∃ b, (g0.toList == ([] : List UInt8)) = b := ⟨_, rfl⟩
     obtain ⟨bu, hbu⟩ : ∃ b, (g1 == 0) = b := ⟨_, rfl⟩
     have hbn : (g0.toList != ([] : List UInt8)) = !be := by rw [bne, hbe]
     rw [hbe, hbu] at H
     cases be <;> cases bu
     · rw [if_neg (by decide), if_neg (by decide)] at H
       by_cases c8 : (l0.take x7_1.toNat).any (fun o => o.f0.toList == g0.toList) = true
       · rw [if_pos c8] at H
         rw [c8] at HCON
         clear c8
         obtain rfl := Option.some.inj H
         go_wp2_with (first | (go_at_call 68; (with_reducible refine (impl_TextOk.calls k1 g0 true _ A1'.out).mono ?_); rintro e w' ⟨rfl, ⟨nd, rfl⟩⟩) | (go_at_call 53; (with_reducible refine (impl_within.calls g1 0 99 true _ A2'.out).mono ?_); rintro e w' ⟨rfl, ⟨nd, rfl⟩⟩) | (go_at_call 69; (refine (HCON.out g1 _ wr.heap.size (zb HB) (by simp) (by simp)).mono ?_); rintro e w' ⟨rfl, hb2⟩))
         go_ret
         exact ⟨by first | rfl | (simp; done) | (simp [*]; done), (fun h => below_then h h.size hb2) (pw_below_drewN (below_alloc HB.out _) _)⟩
       rw [if_neg c8] at H
       replace c8 := Bool.eq_false_iff.mpr c8
       rw [c8] at HCON
       clear c8
       have H' := am H
       clear H
       go_wp2_with (first | (go_at_call 68; (with_reducible refine (impl_TextOk.calls k1 g0 true _ A1'.out).mono ?_); rintro e w' ⟨rfl, ⟨nd, rfl⟩⟩) | (go_at_call 53; (with_reducible refine (impl_within.calls g1 0 99 true _ A2'.out).mono ?_); rintro e w' ⟨rfl, ⟨nd, rfl⟩⟩) | (go_at_call 69; (refine (HCON.out g1 _ wr.heap.size (zb HB) (by simp) (by simp)).mono ?_); rintro e w' ⟨rfl, hb2⟩))
       go_roundg k1
       case measure => have := HK1.out; omega
       case rel => exact ⟨(wrap64 (x7_1 + 1)), ze, H', ⟨by have := HK1.out; omega⟩, ⟨(fun h => below_then h h.size hb2) (pw_below_drewN (below_alloc HB.out _) _)⟩⟩
     · rw [if_pos (by decide)] at H
       obtain rfl := Option.some.inj H
       go_wp2_with (first | (go_at_call 68; (with_reducible refine (impl_TextOk.calls k1 g0 true _ A1'.out).mono ?_); rintro e w' ⟨rfl, ⟨nd, rfl⟩⟩) | (go_at_call 53; (with_reducible refine (impl_within.calls g1 0 99 true _ A2'.out).mono ?_); rintro e w' ⟨rfl, ⟨nd, rfl⟩⟩))
       go_ret
       exact ⟨by first | rfl | (simp; done) | (simp [*]; done), (zb HB)⟩
     · rw [if_pos (by decide)] at H
       obtain rfl := Option.some.inj H
       go_wp2_with (first | (go_at_call 68; (with_reducible refine (impl_TextOk.calls k1 g0 true _ A1'.out).mono ?_); rintro e w' ⟨rfl, ⟨nd, rfl⟩⟩) | (go_at_call 53; (with_reducible refine (impl_within.calls g1 0 99 true _ A2'.out).mono ?_); rintro e w' ⟨rfl, ⟨nd, rfl⟩⟩))
       go_ret
       exact ⟨by first | rfl | (simp; done) | (simp [*]; done), (zb HB)⟩
     rw [if_neg (by decide), if_pos (by decide)] at H
     have H' := am H
     clear H
     go_wp2_with (first | (go_at_call 68; (with_reducible refine (impl_TextOk.calls k1 g0 true _ A1'.out).mono ?_); rintro e w' ⟨rfl, ⟨nd, rfl⟩⟩) | (go_at_call 53; (with_reducible refine (impl_within.calls g1 0 99 true _ A2'.out).mono ?_); rintro e w' ⟨rfl, ⟨nd, rfl⟩⟩))
     go_roundg k1
     case measure => have := HK1.out; omega
     case rel => exact ⟨(wrap64 (x7_1 + 1)), ze, H', ⟨by have := HK1.out; omega⟩, ⟨zb HB⟩⟩
/-! ### impl_Vol_uses: function 46 -/
def impl_Vol_uses.l0 : Nat → Int → Int → List Int → Int → Int → Option (Int)
 | 0, _, _, _, _, _ => none
 | k + 1, x1, x5, x9, x10, x11 => if x11 < x10 then (if 0 ≤ x11 then (if x11 < (x9.length : Int) then (if (rd x9 x11) = x1 then (impl_Vol_uses.l0 k x1 (wrap64 (x5 + 1)) x9 x10 (wrap64 (x11 + 1))) else (impl_Vol_uses.l0 k x1 x5 x9 x10 (wrap64 (x11 + 1)))) else (none)) else (none)) else (some x5)
def impl_Vol_uses.f (k : Nat) (a0_0 : ByteArray) (l0_1 : List Int) (a1 : Int) : Option (Int) := impl_Vol_uses.l0 k a1 0 l0_1 (l0_1.length : Int) 0
theorem impl_Vol_uses.mono_l : ∀ k, (∀ y0 y1 y2 y3 y4, LeO (impl_Vol_uses.l0 k y0 y1 y2 y3 y4) (impl_Vol_uses.l0 (k + 1) y0 y1 y2 y3 y4))
 | 0 => fun _ _ _ _ _ r h => by simp [impl_Vol_uses.l0] at h
 | k + 1 => by
  have ih0 := impl_Vol_uses.mono_l k
  intro y0 y1 y2 y3 y4
  unfold impl_Vol_uses.l0
  exact mo1 ih0
theorem impl_Vol_uses.mono : ∀ a0 a1 a2 k, LeO (impl_Vol_uses.f k a0 a1 a2) (impl_Vol_uses.f (k + 1) a0 a1 a2) := by
 intro a0 a1 a2 k
 have ih0 := impl_Vol_uses.mono_l k
 unfold impl_Vol_uses.f
 exact mo1 ih0
set_option maxHeartbeats 8000000 in
set_option maxRecDepth 100000 in
theorem impl_Vol_uses.calls (k : Nat) (a0_0 : ByteArray) (A0_1 : Option Addr) (c0_1 : Nat) (l0_1 : List Int) (a1 : Int) (r : Int) (w : World) (hr0_1 : Kd.C (Kd.int .i64) w A0_1 l0_1.length l0_1) (hc0_1 : l0_1.length ≤ c0_1) (h : impl_Vol_uses.f k a0_0 l0_1 a1 = some r) :
 Calls Try.prog 46 #[.agg #[.string a0_0, .slice A0_1 l0_1.length c0_1], .int .i64 a1] w fun e w' => e = .returned (.int .i64 r) ∧ Below w.heap.size w w' := by
 have hu38 := Try.underlying38
 have HR0_1 := am hr0_1
 have HC0_1 := am hc0_1
 clear hr0_1 hc0_1
 have HB := am (Below.refl w.heap.size w)
 have H : (impl_Vol_uses.l0 k a1 0 l0_1 (l0_1.length : Int) 0) = some r := h
 clear h
 have H' := am H
 clear H
 go_enter Try.func46, Try.ntmps46
 go_wp2_with (first | ((with_reducible refine gate_dst (N := 2) rfl ?_); refine bx 38 #[.string a0_0, .slice A0_1 l0_1.length c0_1] ?_; intro gb136 hg w3 hbox hb; have BK136 := am (hbox); have GW136 := am (zn hg (zb HB)); have GE136 := am (zn hg (zb HB)); replace HB := am (below_step (zb HB) hb); clear hb hbox hg; have hcz4_0 := ce0 BK136; have hcz4_1 := ce1 BK136; have hfz4_0 := bfz BK136 0; have hfz4_1 := bfz BK136 1))
 go_loopg [5, 11] k (fun kq v5 v11 w' => ∃ (x5_1 : Int) (x11_1 : Int), v5 = .int .i64 x5_1 ∧ v11 = .int .i64 x11_1 ∧ Aside0 (impl_Vol_uses.l0 kq a1 x5_1 l0_1 (l0_1.length : Int) x11_1 = some r) ∧ Aside0 (kq ≤ k) ∧ Aside0 (w'.heap[gb136]? = some (.cells #[.string a0_0, (.slice A0_1 l0_1.length c0_1)] 38 (0, 0))) ∧ Aside0 (Below w.heap.size w w'))
 case atStart => exact ⟨(0), (0), ze, ze, H', ⟨Nat.le_refl _⟩, ⟨zk BK136⟩, ⟨zb HB⟩⟩
 case round =>
  clear H'
  try clear p2
  try clear c4
  try clear hcz4_0
  try clear hcz4_1
  try clear hfz4_0
  try clear hfz4_1
  obtain ⟨x5_1, x11_1, rfl, rfl, HA, HK1, BK136, HB⟩ := hrel
  cases gk with
  | zero => exact absurd HA.out (by simp [impl_Vol_uses.l0])
  | succ k1 =>
   have H := HA.out
   clear HA
   simp only [impl_Vol_uses.l0] at H
   by_cases c5 : x11_1 < (l0_1.length : Int)
   rotate_left
   · rw [if_neg c5] at H
     have c5b0 : decide (x11_1 < (l0_1.length : Int)) = false := decide_eq_false c5
     clear c5
     obtain rfl := Option.some.inj H
     go_wp2
     go_ret
     exact ⟨zv, (zb HB)⟩
   rw [if_pos c5] at H
   have c5b0 : decide (x11_1 < (l0_1.length : Int)) = true := decide_eq_true c5
   clear c5
   by_cases c6 : 0 ≤ x11_1
   rotate_left
   · rw [if_neg c6] at H
     exact absurd H (by simp)
   rw [if_pos c6] at H
   have c6b0 : decide (0 ≤ x11_1) = true := decide_eq_true c6
   clear c6
   by_cases c7 : x11_1 < (l0_1.length : Int)
   rotate_left
   · rw [if_neg c7] at H
     exact absurd H (by simp)
   rw [if_pos c7] at H
   have c7b0 : decide (x11_1 < (l0_1.length : Int)) = true := decide_eq_true c7
   clear c7
   by_cases c8 : (rd l0_1 x11_1) = a1
   · rw [if_pos c8] at H
     have c8b0 : ((rd l0_1 x11_1) == a1) = true := beq_iff_eq.mpr c8
     have c8b1 : ((rd l0_1 x11_1) != a1) = false := bne_eq_false_iff_eq.mpr c8
     clear c8
     have H' := am H
     clear H
     have p137 : 0 ≤ (x11_1 : Int) := of_decide_eq_true zl
     have q137 : x11_1 < (l0_1.length : Int) := of_decide_eq_true zl
     obtain ⟨ad137, e137, hx137_0⟩ := Kd.at_int HR0_1.out x11_1 p137 q137
     cases e137
     replace hx137_0 := hcx HB hx137_0
     replace p137 := eq_true p137
     replace q137 := eq_true q137
     go_wp2
     go_roundg k1
     case measure => have := HK1.out; omega
     case rel => exact ⟨(wrap64 (x5_1 + 1)), (wrap64 (x11_1 + 1)), ze, ze, H', ⟨by have := HK1.out; omega⟩, ⟨zk BK136⟩, ⟨zb HB⟩⟩
   rw [if_neg c8] at H
   have c8b0 : ((rd l0_1 x11_1) == a1) = false := beq_eq_false_iff_ne.mpr c8
   have c8b1 : ((rd l0_1 x11_1) != a1) = true := bne_iff_ne.mpr c8
   have H' := am H
   clear H
   have p137 : 0 ≤ (x11_1 : Int) := of_decide_eq_true zl
   have q137 : x11_1 < (l0_1.length : Int) := of_decide_eq_true zl
   obtain ⟨ad137, e137, hx137_0⟩ := Kd.at_int HR0_1.out x11_1 p137 q137
   cases e137
   replace hx137_0 := hcx HB hx137_0
   replace p137 := eq_true p137
   replace q137 := eq_true q137
   go_wp2
   go_roundg k1
   case measure => have := HK1.out; omega
   case rel => exact ⟨(x5_1), (wrap64 (x11_1 + 1)), ze, ze, H', ⟨by have := HK1.out; omega⟩, ⟨zk BK136⟩, ⟨zb HB⟩⟩
end Go.Proofs.Ytooamacekmjpaaa.PFnPoolOnce
