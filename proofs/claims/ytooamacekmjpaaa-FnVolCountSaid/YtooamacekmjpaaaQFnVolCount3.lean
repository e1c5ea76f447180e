/- The walk: each function that the law comes to as a plain Lean function, and a proof that the Go code answers so. Written by this session's program over the kit's printer. -/
import Derived.Test.YtooamacekmjpaaaZ
import Derived.Test.YtooamacekmjpaaaQFnVolCount0
namespace Go.Proofs.Ytooamacekmjpaaa.PFnVolCount
open Go.RowKit Go.Proofs.YtooamacekmjpaaaW.PrintWords Go.Proofs.YtooamacekmjpaaaW.PrintLast Go.Proofs.YtooamacekmjpaaaW.PrintMore
attribute [local go_sem] max2_int min2_int max_two min_two max_three min_three max_four min_four   -- for this text's walks alone
set_option linter.unusedVariables false
set_option linter.unusedSimpArgs false
/-! ### spec_l1Place: function 99 -/
def spec_l1Place.l0 : Nat → ByteArray → Int → Int → Option (Int)
 | 0, _, _, _ => none
 | k + 1, x0, x3, x4 => if x4 < (x0.size : Int) then (if 0 ≤ x4 then (spec_l1Place.l0 k x0 (wrap64 (x3 + (wrap64 ((wrap64 (x4 + 1)) * ((((bt x0 x4) - 97) % 256) + 1))))) (wrap64 (x4 + 1))) else (none)) else (some (wrap64 ((Int.tmod x3 8) + 1)))
def spec_l1Place.f (k : Nat) (a0 : ByteArray) : Option (Int) := spec_l1Place.l0 k a0 0 0
theorem spec_l1Place.mono_l : ∀ k, (∀ y0 y1 y2, LeO (spec_l1Place.l0 k y0 y1 y2) (spec_l1Place.l0 (k + 1) y0 y1 y2))
 | 0 => fun _ _ _ r h => by simp [spec_l1Place.l0] at h
 | k + 1 => by
  have ih0 := spec_l1Place.mono_l k
  intro y0 y1 y2
  unfold spec_l1Place.l0
  exact mo1 ih0
theorem spec_l1Place.mono : ∀ a0 k, LeO (spec_l1Place.f k a0) (spec_l1Place.f (k + 1) a0) := by
 intro a0 k
 have ih0 := spec_l1Place.mono_l k
 unfold spec_l1Place.f
 exact mo1 ih0
set_option maxHeartbeats 8000000 in
set_option maxRecDepth 100000 in
theorem spec_l1Place.calls (k : Nat) (a0 : ByteArray) (r : Int) (w : World) (h : spec_l1Place.f k a0 = some r) :
 Calls Try.prog 99 #[.string a0] w fun e w' => e = .returned (.int .i64 r) ∧ Drawn0 w w' := by
 have H : (spec_l1Place.l0 k a0 0 0) = some r := h
 clear h
 have H' := am H
 clear H
 go_enter Try.func99, Try.ntmps99
 go_wp2
 go_loopg [3, 4] k (fun kq v3 v4 w' => ∃ (x3_1 : Int) (x4_1 : Int), v3 = .int .i64 x3_1 ∧ v4 = .int .i64 x4_1 ∧ Aside0 (spec_l1Place.l0 kq a0 x3_1 x4_1 = some r) ∧ Aside0 (kq ≤ k) ∧ Drawn0 w w')
 case atStart => exact ⟨(0), (0), ze, ze, H', ⟨Nat.le_refl _⟩, by repeat (first | exact Drawn0.refl _ | apply Drawn0.step)⟩
 case round =>
  clear H'
  obtain ⟨x3_1, x4_1, rfl, rfl, HA, HK1, ⟨m1, rfl⟩⟩ := hrel
  cases gk with
  | zero => exact absurd HA.out (by simp [spec_l1Place.l0])
  | succ k1 =>
   have H := HA.out
   clear HA
   simp only [spec_l1Place.l0] at H
   by_cases c2 : x4_1 < (a0.size : Int)
   rotate_left
   · rw [if_neg c2] at H
     have c2b0 : decide (x4_1 < (a0.size : Int)) = false := decide_eq_false c2
     clear c2
     obtain rfl := Option.some.inj H
     go_wp2
     go_ret
     exact ⟨by first | rfl | (simp; done) | (simp [*]; done), by repeat (first | exact Drawn0.refl _ | apply Drawn0.step)⟩
   rw [if_pos c2] at H
   have c2b0 : decide (x4_1 < (a0.size : Int)) = true := decide_eq_true c2
   clear c2
   by_cases c3 : 0 ≤ x4_1
   rotate_left
   · rw [if_neg c3] at H
     exact absurd H (by simp)
   rw [if_pos c3] at H
   have c3b0 : decide (0 ≤ x4_1) = true := decide_eq_true c3
   clear c3
   have H' := am H
   clear H
   have p4 : 0 ≤ (x4_1 : Int) := of_decide_eq_true zl
   have q4 : x4_1 < (a0.size : Int) := of_decide_eq_true zl
   have hx4 := bt_at a0 x4_1
   replace p4 := eq_true p4
   replace q4 := eq_true q4
   go_wp2
   go_roundg k1
   case measure => have := HK1.out; omega
   case rel => exact ⟨(wrap64 (x3_1 + (wrap64 ((wrap64 (x4_1 + 1)) * ((((bt a0 x4_1) - 97) % 256) + 1))))), (wrap64 (x4_1 + 1)), ze, ze, H', ⟨by have := HK1.out; omega⟩, by repeat (first | exact Drawn0.refl _ | apply Drawn0.step)⟩
/-! ### spec_l1Next: function 100 -/
def spec_l1Next.f (a0 : Int) : Option (Int) := some (wrap64 ((Int.tmod a0 8) + 1))
set_option maxHeartbeats 8000000 in
set_option maxRecDepth 100000 in
theorem spec_l1Next.calls (a0 : Int) (r : Int) (w : World) (h : spec_l1Next.f a0 = some r) :
 Calls Try.prog 100 #[.int .i64 a0] w fun e w' => e = .returned (.int .i64 r) ∧ Drawn0 w w' := by
 have H : (some (wrap64 ((Int.tmod a0 8) + 1))) = some r := h
 clear h
 obtain rfl := Option.some.inj H
 go_enter Try.func100, Try.ntmps100
 go_wp2
 go_ret
 exact ⟨by first | rfl | (simp; done) | (simp [*]; done), by repeat (first | exact Drawn0.refl _ | apply Drawn0.step)⟩
/-! ### spec_l2Find: function 98 -/
def spec_l2Find.l0 : Nat → List (S55) → ByteArray → Int → Int → Int → Option (Int × Bool)
 | 0, _, _, _, _, _ => none
 | k + 1, x0, x1, x6, x7, x8 => if x8 < 8 then (if 0 ≤ (wrap64 (x6 - 1)) then (if (wrap64 (x6 - 1)) < (x0.length : Int) then (if ((rd_T55 x0 (wrap64 (x6 - 1))).f0).toList = x1.toList then (some (x6, true)) else (if ((rd_T55 x0 (wrap64 (x6 - 1))).f1) = 0 then (if x7 = 0 then ((spec_l1Next.f x6).bind fun t177 => (spec_l2Find.l0 k x0 x1 t177 x6 (wrap64 (x8 + 1)))) else ((spec_l1Next.f x6).bind fun t178 => (spec_l2Find.l0 k x0 x1 t178 x7 (wrap64 (x8 + 1))))) else ((spec_l1Next.f x6).bind fun t179 => (spec_l2Find.l0 k x0 x1 t179 x7 (wrap64 (x8 + 1)))))) else (none)) else (none)) else (some (x7, false))
def spec_l2Find.f (k : Nat) (l0 : List (S55)) (a1 : ByteArray) : Option (Int × Bool) := (spec_l1Place.f k a1).bind fun t174 => (spec_l2Find.l0 k l0 a1 t174 0 0)
theorem spec_l2Find.mono_l : ∀ k, (∀ y0 y1 y2 y3 y4, LeO (spec_l2Find.l0 k y0 y1 y2 y3 y4) (spec_l2Find.l0 (k + 1) y0 y1 y2 y3 y4))
 | 0 => fun _ _ _ _ _ r h => by simp [spec_l2Find.l0] at h
 | k + 1 => by
  have ih0 := spec_l2Find.mono_l k
  intro y0 y1 y2 y3 y4
  unfold spec_l2Find.l0
  exact mo2 ih0 @spec_l1Place.mono
theorem spec_l2Find.mono : ∀ a0 a1 k, LeO (spec_l2Find.f k a0 a1) (spec_l2Find.f (k + 1) a0 a1) := by
 intro a0 a1 k
 have ih0 := spec_l2Find.mono_l k
 unfold spec_l2Find.f
 exact mo2 ih0 @spec_l1Place.mono
set_option maxHeartbeats 8000000 in
set_option maxRecDepth 100000 in
theorem spec_l2Find.calls (k : Nat) (A0 : Option Addr) (c0 : Nat) (l0 : List (S55)) (a1 : ByteArray) (r1 : Int) (r2 : Bool) (w : World) (hr0 : Kd.C k55 w A0 l0.length l0) (hc0 : l0.length ≤ c0) (h : spec_l2Find.f k l0 a1 = some (r1, r2)) :
 Calls Try.prog 98 #[.slice A0 l0.length c0, .string a1] w fun e w' => e = .returned (.tuple #[.int .i64 r1, .bool r2]) ∧ Drawn0 w w' := by
 have HR0 := am hr0
 have HC0 := am hc0
 clear hr0 hc0
 have H : ((spec_l1Place.f k a1).bind fun t174 => (spec_l2Find.l0 k l0 a1 t174 0 0)) = some (r1, r2) := h
 clear h
 replace H := obs H
 obtain ⟨t174, A30, H⟩ := H
 replace H : (spec_l2Find.l0 k l0 a1 t174 0 0) = some (r1, r2) := H
 have A3 := am A30
 clear A30
 have H' := am H
 clear H
 go_enter Try.func98, Try.ntmps98
 go_wp2_with (first | ((with_reducible refine gate_callee (f := 99) rfl ?_); refine gl Try.func99 10 #[.string a1] rfl rfl rfl ?_; (with_reducible refine (spec_l1Place.calls k a1 t174 _ A3.out).mono ?_); rintro e w' ⟨rfl, ⟨nd, rfl⟩⟩; refine ⟨_, rfl, ?_⟩))
 go_loopg [6, 7, 8] k (fun kq v6 v7 v8 w' => ∃ (x6_1 : Int) (x7_1 : Int) (x8_1 : Int), v6 = .int .i64 x6_1 ∧ v7 = .int .i64 x7_1 ∧ v8 = .int .i64 x8_1 ∧ Aside0 (spec_l2Find.l0 kq l0 a1 x6_1 x7_1 x8_1 = some (r1, r2)) ∧ Aside0 (kq ≤ k) ∧ Drawn0 w w')
 case atStart => exact ⟨(t174), (0), (0), ze, ze, ze, H', ⟨Nat.le_refl _⟩, by repeat (first | exact Drawn0.refl _ | apply Drawn0.step)⟩
 case round =>
  clear H'
  try clear p2
  obtain ⟨x6_1, x7_1, x8_1, rfl, rfl, rfl, HA, HK1, ⟨m1, rfl⟩⟩ := hrel
  cases gk with
  | zero => exact absurd HA.out (by simp [spec_l2Find.l0])
  | succ k1 =>
   have H := HA.out
   clear HA
   simp only [spec_l2Find.l0] at H
   by_cases c4 : x8_1 < 8
   rotate_left
   · rw [if_neg c4] at H
     have c4b0 : decide (x8_1 < 8) = false := decide_eq_false c4
     clear c4
     simp only [Option.some.injEq, Prod.mk.injEq] at H
     obtain ⟨rfl, rfl⟩ := H
     go_wp2
     go_ret2
     exact ⟨by first | rfl | (simp; done) | (simp [*]; done), by repeat (first | exact Drawn0.refl _ | apply Drawn0.step)⟩
   rw [if_pos c4] at H
   have c4b0 : decide (x8_1 < 8) = true := decide_eq_true c4
   clear c4
   obtain ⟨ji5, hji5⟩ : ∃ j_ : Int, (wrap64 (x6_1 - 1)) = j_ := ⟨_, rfl⟩
   replace H : (if 0 ≤ (ji5) then (if (ji5) < (l0.length : Int) then (if ((rd_T55 l0 (ji5)).f0).toList = a1.toList then (some (x6_1, true)) else (if ((rd_T55 l0 (ji5)).f1) = 0 then (if x7_1 = 0 then ((spec_l1Next.f x6_1).bind fun t177 => (spec_l2Find.l0 k1 l0 a1 t177 x6_1 (wrap64 (x8_1 + 1)))) else ((spec_l1Next.f x6_1).bind fun t178 => (spec_l2Find.l0 k1 l0 a1 t178 x7_1 (wrap64 (x8_1 + 1))))) else ((spec_l1Next.f x6_1).bind fun t179 => (spec_l2Find.l0 k1 l0 a1 t179 x7_1 (wrap64 (x8_1 + 1)))))) else (none)) else (none)) = some (r1, r2) := by first | (rw [hji5] at H; exact H) | (simp only [hji5] at H ⊢; exact H)
   have hji5w : (IntKind.i64.wrap (x6_1 - 1)) = ji5 := (i64_w _).trans hji5
   by_cases c6 : 0 ≤ (ji5)
   rotate_left
   · rw [if_neg c6] at H
     exact absurd H (by simp)
   rw [if_pos c6] at H
   have c6b0 : decide (0 ≤ (ji5)) = true := decide_eq_true c6
   clear c6
   by_cases c7 : (ji5) < (l0.length : Int)
   rotate_left
   · rw [if_neg c7] at H
     exact absurd H (by simp)
   rw [if_pos c7] at H
   have c7b0 : decide ((ji5) < (l0.length : Int)) = true := decide_eq_true c7
   clear c7
   by_cases c8 : ((rd_T55 l0 (ji5)).f0).toList = a1.toList
   · rw [if_pos c8] at H
     have c8b0 : (((rd_T55 l0 (ji5)).f0).toList == a1.toList) = true := beq_iff_eq.mpr c8
     have c8b1 : (((rd_T55 l0 (ji5)).f0).toList != a1.toList) = false := bne_eq_false_iff_eq.mpr c8
     clear c8
     simp only [Option.some.injEq, Prod.mk.injEq] at H
     obtain ⟨rfl, rfl⟩ := H
     have p175 : 0 ≤ ((ji5) : Int) := of_decide_eq_true zl
     have q175 : (ji5) < (l0.length : Int) := of_decide_eq_true zl
     obtain ⟨ad175, e175, hx175_0, hx175_1⟩ := at_T55 HR0.out (ji5) p175 q175
     cases e175
     replace p175 := eq_true p175
     replace q175 := eq_true q175
     go_wp2
     go_ret2
     exact ⟨by first | rfl | (simp; done) | (simp only [← hji5] <;> (first | rfl | simp)) | (simp [*]; done), by repeat (first | exact Drawn0.refl _ | apply Drawn0.step)⟩
   rw [if_neg c8] at H
   have c8b0 : (((rd_T55 l0 (ji5)).f0).toList == a1.toList) = false := beq_eq_false_iff_ne.mpr c8
   have c8b1 : (((rd_T55 l0 (ji5)).f0).toList != a1.toList) = true := bne_iff_ne.mpr c8
   by_cases c9 : ((rd_T55 l0 (ji5)).f1) = 0
   rotate_left
   · rw [if_neg c9] at H
     have c9b0 : (((rd_T55 l0 (ji5)).f1) == 0) = false := beq_eq_false_iff_ne.mpr c9
     have c9b1 : (((rd_T55 l0 (ji5)).f1) != 0) = true := bne_iff_ne.mpr c9
     replace H := obs H
     obtain ⟨t179, A130, H⟩ := H
     replace H : (spec_l2Find.l0 k1 l0 a1 t179 x7_1 (wrap64 (x8_1 + 1))) = some (r1, r2) := H
     have A13 := am A130
     clear A130
     have H' := am H
     clear H
     have p175 : 0 ≤ ((ji5) : Int) := of_decide_eq_true zl
     have q175 : (ji5) < (l0.length : Int) := of_decide_eq_true zl
     obtain ⟨ad175, e175, hx175_0, hx175_1⟩ := at_T55 HR0.out (ji5) p175 q175
     cases e175
     replace p175 := eq_true p175
     replace q175 := eq_true q175
     have p176 : 0 ≤ ((ji5) : Int) := of_decide_eq_true zl
     have q176 : (ji5) < (l0.length : Int) := of_decide_eq_true zl
     obtain ⟨ad176, e176, hx176_0, hx176_1⟩ := at_T55 HR0.out (ji5) p176 q176
     obtain rfl : ad175 = ad176 := (by injection e176)
     replace p176 := eq_true p176
     replace q176 := eq_true q176
     go_wp2_with (first | ((with_reducible refine gate_callee (f := 100) rfl ?_); refine gl Try.func100 37 #[.int .i64 x6_1] rfl rfl rfl ?_; (with_reducible refine (spec_l1Next.calls x6_1 t179 _ A13.out).mono ?_); rintro e w' ⟨rfl, ⟨nd, rfl⟩⟩; refine ⟨_, rfl, ?_⟩))
     go_roundg k1
     case measure => have := HK1.out; omega
     case rel => exact ⟨(t179), (x7_1), (wrap64 (x8_1 + 1)), ze, ze, ze, H', ⟨by have := HK1.out; omega⟩, by repeat (first | exact Drawn0.refl _ | apply Drawn0.step)⟩
   rw [if_pos c9] at H
   have c9b0 : (((rd_T55 l0 (ji5)).f1) == 0) = true := beq_iff_eq.mpr c9
   have c9b1 : (((rd_T55 l0 (ji5)).f1) != 0) = false := bne_eq_false_iff_eq.mpr c9
   clear c9
   by_cases c10 : x7_1 = 0
   · rw [if_pos c10] at H
     have c10b0 : (x7_1 == 0) = true := beq_iff_eq.mpr c10
     have c10b1 : (x7_1 != 0) = false := bne_eq_false_iff_eq.mpr c10
     clear c10
     replace H := obs H
     obtain ⟨t177, A110, H⟩ := H
     replace H : (spec_l2Find.l0 k1 l0 a1 t177 x6_1 (wrap64 (x8_1 + 1))) = some (r1, r2) := H
     have A11 := am A110
     clear A110
     have H' := am H
     clear H
     have p175 : 0 ≤ ((ji5) : Int) := of_decide_eq_true zl
     have q175 : (ji5) < (l0.length : Int) := of_decide_eq_true zl
     obtain ⟨ad175, e175, hx175_0, hx175_1⟩ := at_T55 HR0.out (ji5) p175 q175
     cases e175
     replace p175 := eq_true p175
     replace q175 := eq_true q175
     have p176 : 0 ≤ ((ji5) : Int) := of_decide_eq_true zl
     have q176 : (ji5) < (l0.length : Int) := of_decide_eq_true zl
     obtain ⟨ad176, e176, hx176_0, hx176_1⟩ := at_T55 HR0.out (ji5) p176 q176
     obtain rfl : ad175 = ad176 := (by injection e176)
     replace p176 := eq_true p176
     replace q176 := eq_true q176
     go_wp2_with (first | ((with_reducible refine gate_callee (f := 100) rfl ?_); refine gl Try.func100 37 #[.int .i64 x6_1] rfl rfl rfl ?_; (with_reducible refine (spec_l1Next.calls x6_1 t177 _ A11.out).mono ?_); rintro e w' ⟨rfl, ⟨nd, rfl⟩⟩; refine ⟨_, rfl, ?_⟩))
     go_roundg k1
     case measure => have := HK1.out; omega
     case rel => exact ⟨(t177), (x6_1), (wrap64 (x8_1 + 1)), ze, ze, ze, H', ⟨by have := HK1.out; omega⟩, by repeat (first | exact Drawn0.refl _ | apply Drawn0.step)⟩
   rw [if_neg c10] at H
   have c10b0 : (x7_1 == 0) = false := beq_eq_false_iff_ne.mpr c10
   have c10b1 : (x7_1 != 0) = true := bne_iff_ne.mpr c10
   replace H := obs H
   obtain ⟨t178, A120, H⟩ := H
   replace H : (spec_l2Find.l0 k1 l0 a1 t178 x7_1 (wrap64 (x8_1 + 1))) = some (r1, r2) := H
   have A12 := am A120
   clear A120
   have H' := am H
   clear H
   have p175 : 0 ≤ ((ji5) : Int) := of_decide_eq_true zl
   have q175 : (ji5) < (l0.length : Int) := of_decide_eq_true zl
   obtain ⟨ad175, e175, hx175_0, hx175_1⟩ := at_T55 HR0.out (ji5) p175 q175
   cases e175
   replace p175 := eq_true p175
   replace q175 := eq_true q175
   have p176 : 0 ≤ ((ji5) : Int) := of_decide_eq_true zl
   have q176 : (ji5) < (l0.length : Int) := of_decide_eq_true zl
   obtain ⟨ad176, e176, hx176_0, hx176_1⟩ := at_T55 HR0.out (ji5) p176 q176
   obtain rfl : ad175 = ad176 := (by injection e176)
   replace p176 := eq_true p176
   replace q176 := eq_true q176
   go_wp2_with (first | ((with_reducible refine gate_callee (f := 100) rfl ?_); refine gl Try.func100 37 #[.int .i64 x6_1] rfl rfl rfl ?_; (with_reducible refine (spec_l1Next.calls x6_1 t178 _ A12.out).mono ?_); rintro e w' ⟨rfl, ⟨nd, rfl⟩⟩; refine ⟨_, rfl, ?_⟩))
   go_roundg k1
   case measure => have := HK1.out; omega
   case rel => exact ⟨(t178), (x7_1), (wrap64 (x8_1 + 1)), ze, ze, ze, H', ⟨by have := HK1.out; omega⟩, by repeat (first | exact Drawn0.refl _ | apply Drawn0.step)⟩
/-! ### spec_l2Put: function 97 -/
def spec_l2Put.f (k : Nat) (l0 : List (S55)) (a1 : ByteArray) : Option ((List (S55)) × Int × Bool) := (spec_l2Find.f k l0 a1).bind fun bt180 => (if bt180.1 = 0 then (some (l0, 0, false)) else (if 0 ≤ (wrap64 (bt180.1 - 1)) then (if (wrap64 (bt180.1 - 1)) < (l0.length : Int) then (if ((rd_T55 l0 (wrap64 (bt180.1 - 1))).f1) ≥ 99 then (some (l0, 0, false)) else (some ((l0.set ((wrap64 (bt180.1 - 1)) : Int).toNat (⟨a1, wrap64 (((rd_T55 l0 (wrap64 (bt180.1 - 1))).f1) + 1)⟩ : S55)), bt180.1, true))) else (none)) else (none)))
theorem spec_l2Put.mono : ∀ a0 a1 k, LeO (spec_l2Put.f k a0 a1) (spec_l2Put.f (k + 1) a0 a1) := by
 intro a0 a1 k
 unfold spec_l2Put.f
 exact mo1 @spec_l2Find.mono
set_option maxHeartbeats 8000000 in
set_option maxRecDepth 100000 in
theorem spec_l2Put.calls (k : Nat) (P0_ : Nat → Prop) (u9000_ : Value) (l0 : List (S55)) (a1 : ByteArray) (r1 : List (S55)) (r2 : Int) (r3 : Bool) (w0 w : World) (hB : Below w0.heap.size w0 w) (ho0 : Kd.R k55 55 w w0.heap.size P0_ u9000_ l0) (h : spec_l2Put.f k l0 a1 = some (r1, r2, r3)) :
 Calls Try.prog 97 #[u9000_, .string a1] w fun e w' => ∃ v0_ : Value, e = .returned (.tuple #[v0_, .int .i64 r2, .bool r3]) ∧ Kd.R k55 55 w' w0.heap.size (fun k_ => (P0_ k_ ∨ w.heap.size ≤ k_)) v0_ r1 ∧ Below w0.heap.size w0 w' ∧ Kept w w' (fun k_ => P0_ k_) := by
 have hu55 := Try.underlying55
 have HO0 := am (show Kd.R k55 55 w w0.heap.size (fun k_ => (P0_ k_ ∨ w.heap.size ≤ k_)) u9000_ l0 from Kd.R_mono ho0 (fun k_ hk => (.inl hk)))
 have HK := am (Kept.refl w (fun k_ => P0_ k_))
 have HW0 := am hB.size
 have HB := am hB
 clear hB
 have H : ((spec_l2Find.f k l0 a1).bind fun bt180 => (if bt180.1 = 0 then (some (l0, 0, false)) else (if 0 ≤ (wrap64 (bt180.1 - 1)) then (if (wrap64 (bt180.1 - 1)) < (l0.length : Int) then (if ((rd_T55 l0 (wrap64 (bt180.1 - 1))).f1) ≥ 99 then (some (l0, 0, false)) else (some ((l0.set ((wrap64 (bt180.1 - 1)) : Int).toNat (⟨a1, wrap64 (((rd_T55 l0 (wrap64 (bt180.1 - 1))).f1) + 1)⟩ : S55)), bt180.1, true))) else (none)) else (none)))) = some (r1, r2, r3) := h
 clear h
 replace H := obs H
 obtain ⟨⟨t180, t181⟩, A30, H⟩ := H
 replace H : (if t180 = 0 then (some (l0, 0, false)) else (if 0 ≤ (wrap64 (t180 - 1)) then (if (wrap64 (t180 - 1)) < (l0.length : Int) then (if ((rd_T55 l0 (wrap64 (t180 - 1))).f1) ≥ 99 then (some (l0, 0, false)) else (some ((l0.set ((wrap64 (t180 - 1)) : Int).toNat (⟨a1, wrap64 (((rd_T55 l0 (wrap64 (t180 - 1))).f1) + 1)⟩ : S55)), t180, true))) else (none)) else (none))) = some (r1, r2, r3) := H
 have A3 := am A30
 clear A30
 by_cases c4 : t180 = 0
 · rw [if_pos c4] at H
   have c4b0 : (t180 == 0) = true := beq_iff_eq.mpr c4
   have c4b1 : (t180 != 0) = false := bne_eq_false_iff_eq.mpr c4
   clear c4
   simp only [Option.some.injEq, Prod.mk.injEq] at H
   obtain ⟨rfl, rfl, rfl⟩ := H
   obtain ⟨Ao5, co5, eo5⟩ := Kd.R_slice HO0.out
   subst eo5
   go_enter Try.func97, Try.ntmps97
   go_wp2_with (first | ((with_reducible refine gate_callee (f := 98) rfl ?_); refine gl Try.func98 12 #[.slice Ao5 l0.length co5, .string a1] rfl rfl rfl ?_; (with_reducible refine (spec_l2Find.calls k _ _ l0 a1 t180 t181 _ ?side1 ?side2 A3.out).mono ?_); (case side1 => exact zc (Kd.R_reads' HO0.out).2.2); (case side2 => exact (Kd.R_reads' HO0.out).2.1); rintro e w' ⟨rfl, ⟨nd, rfl⟩⟩; refine ⟨_, rfl, ?_⟩))
   go_ret3
   exact ⟨_, zw, (zr HO0), (zb HB), (zq HK)⟩
 rw [if_neg c4] at H
 have c4b0 : (t180 == 0) = false := beq_eq_false_iff_ne.mpr c4
 have c4b1 : (t180 != 0) = true := bne_iff_ne.mpr c4
 obtain ⟨ji6, hji6⟩ : ∃ j_ : Int, (wrap64 (t180 - 1)) = j_ := ⟨_, rfl⟩
 replace H : (if 0 ≤ (ji6) then (if (ji6) < (l0.length : Int) then (if ((rd_T55 l0 (ji6)).f1) ≥ 99 then (some (l0, 0, false)) else (some ((l0.set ((ji6) : Int).toNat (⟨a1, wrap64 (((rd_T55 l0 (ji6)).f1) + 1)⟩ : S55)), t180, true))) else (none)) else (none)) = some (r1, r2, r3) := by first | (rw [hji6] at H; exact H) | (simp only [hji6] at H ⊢; exact H)
 (try rw [hji6] at A3)
 have hji6w : (IntKind.i64.wrap (t180 - 1)) = ji6 := (i64_w _).trans hji6
 by_cases c7 : 0 ≤ (ji6)
 rotate_left
 · rw [if_neg c7] at H
   exact absurd H (by simp)
 rw [if_pos c7] at H
 have c7b0 : decide (0 ≤ (ji6)) = true := decide_eq_true c7
 clear c7
 by_cases c8 : (ji6) < (l0.length : Int)
 rotate_left
 · rw [if_neg c8] at H
   exact absurd H (by simp)
 rw [if_pos c8] at H
 have c8b0 : decide ((ji6) < (l0.length : Int)) = true := decide_eq_true c8
 clear c8
 by_cases c9 : ((rd_T55 l0 (ji6)).f1) ≥ 99
 · rw [if_pos c9] at H
   have c9b0 : decide (99 ≤ ((rd_T55 l0 (ji6)).f1)) = true := decide_eq_true c9
   clear c9
   simp only [Option.some.injEq, Prod.mk.injEq] at H
   obtain ⟨rfl, rfl, rfl⟩ := H
   obtain ⟨Ao10, co10, eo10⟩ := Kd.R_slice HO0.out
   subst eo10
   go_enter Try.func97, Try.ntmps97
   go_wp2_with (first | ((with_reducible refine gate_callee (f := 98) rfl ?_); refine gl Try.func98 12 #[.slice Ao10 l0.length co10, .string a1] rfl rfl rfl ?_; (with_reducible refine (spec_l2Find.calls k _ _ l0 a1 t180 t181 _ ?side1 ?side2 A3.out).mono ?_); (case side1 => exact zc (Kd.R_reads' HO0.out).2.2); (case side2 => exact (Kd.R_reads' HO0.out).2.1); rintro e w' ⟨rfl, ⟨nd, rfl⟩⟩; refine ⟨_, rfl, ?_⟩; have p182 : 0 ≤ ((ji6) : Int) := of_decide_eq_true zl; have q182 : (ji6) < (l0.length : Int) := of_decide_eq_true zl; obtain ⟨ad182, e182, hx182_0, hx182_1⟩ := at_T55 (Kd.R_reads' HO0.out).2.2 (ji6) p182 q182; cases e182; replace p182 := eq_true p182; replace q182 := eq_true q182))
   go_ret3
   exact ⟨_, by first | rfl | (simp [errW_none, errW_some] <;> rfl) | (simp only [← hji6]; first | rfl | (simp [errW_none, errW_some] <;> rfl)) | (simp [*, errW_none, errW_some] <;> rfl), (zr HO0), (zb HB), (zq HK)⟩
 rw [if_neg c9] at H
 have c9b0 : decide (99 ≤ ((rd_T55 l0 (ji6)).f1)) = false := decide_eq_false c9
 clear c9
 obtain ⟨y184, hy184⟩ : ∃ y_ : List (S55), y_ = (l0.set ((ji6) : Int).toNat (⟨a1, wrap64 (((rd_T55 l0 (ji6)).f1) + 1)⟩ : S55)) := ⟨_, rfl⟩
 replace H : (some (y184, t180, true)) = some (r1, r2, r3) := hY hy184 H
 have Ny184 := am hy184
 clear hy184
 simp only [Option.some.injEq, Prod.mk.injEq] at H
 obtain ⟨rfl, rfl, rfl⟩ := H
 obtain ⟨Ao12, co12, eo12⟩ := Kd.R_slice HO0.out
 subst eo12
 go_enter Try.func97, Try.ntmps97
 go_wp2_with (first | ((with_reducible refine gate_callee (f := 98) rfl ?_); refine gl Try.func98 12 #[.slice Ao12 l0.length co12, .string a1] rfl rfl rfl ?_; (with_reducible refine (spec_l2Find.calls k _ _ l0 a1 t180 t181 _ ?side1 ?side2 A3.out).mono ?_); (case side1 => exact zc (Kd.R_reads' HO0.out).2.2); (case side2 => exact (Kd.R_reads' HO0.out).2.1); rintro e w' ⟨rfl, ⟨nd, rfl⟩⟩; refine ⟨_, rfl, ?_⟩; (try (rw [drewN_self w]; generalize hq_ : World.drewN w _ = wq_; replace HO0 : Aside0 (Kd.R k55 55 wq_ w0.heap.size (fun k_ => (P0_ k_ ∨ w.heap.size ≤ k_)) (.slice Ao12 l0.length co12) l0) := ⟨by rw [← hq_]; exact (zr HO0)⟩; replace HK : Aside0 (Kept w wq_ (fun k_ => P0_ k_)) := ⟨by rw [← hq_]; exact (zq HK)⟩; replace HB : Aside0 (Below w0.heap.size w0 wq_) := ⟨by rw [← hq_]; exact (zb HB)⟩; clear hq_)); have p182 : 0 ≤ ((ji6) : Int) := of_decide_eq_true zl; have q182 : (ji6) < (l0.length : Int) := of_decide_eq_true zl; obtain ⟨ad182, e182, hx182_0, hx182_1⟩ := at_T55 (Kd.R_reads' HO0.out).2.2 (ji6) p182 q182; cases e182; replace p182 := eq_true p182; replace q182 := eq_true q182; have p183 : 0 ≤ ((ji6) : Int) := of_decide_eq_true zl; have q183 : (ji6) < (l0.length : Int) := of_decide_eq_true zl; obtain ⟨ad183, e183, hx183_0, hx183_1⟩ := at_T55 (Kd.R_reads' HO0.out).2.2 (ji6) p183 q183; obtain rfl : ad182 = ad183 := (by injection e183); replace p183 := eq_true p183; replace q183 := eq_true q183; have p11 : 0 ≤ ((ji6) : Int) := of_decide_eq_true zl; have q11 : ((ji6) : Int) < ((l0.length : Int) : Int) := of_decide_eq_true zl; obtain ⟨go11, co11, eo11, gb11, gl11, cl11, HG11⟩ := Kd.R_form HO0.out (by omega); (first | cases eo11 | (injection eo11 with ea_ en_ ec_; (first | subst ea_ | (injection ea_ with ea_; subst ea_)); subst ec_; clear en_)); have GB11 := am gb11; have GG11 := am HG11; clear gb11 gl11 HG11; have HMgo11 := am (show (P0_ go11 ∨ w.heap.size ≤ go11) from (HO0.out.1 _ rfl)); (first | simp only [add_plain] at hx182_0 | skip); (first | simp only [add_plain] at hx182_1 | skip); (first | simp only [add_plain] at hx183_0 | skip); (first | simp only [add_plain] at hx183_1 | skip); obtain ⟨ce11, hcl11, hM11, hcc11, hfr11⟩ := Kd.R_elem HO0.out z55 ((ji6) : Int) p11 q11; obtain rfl := k55_openM hM11; have hx11_0 : wq_.cell? ⟨go11, ((ji6) : Int).toNat * 2, none⟩ = some (.string ((rd_T55 l0 (ji6)).f0)) := hcc11 0 _ rfl; have hx11_1 : wq_.cell? ⟨go11, ((ji6) : Int).toNat * 2 + 1, none⟩ = some (.int .i64 ((rd_T55 l0 (ji6)).f1)) := hcc11 1 _ rfl; have hf11_0 : wq_.frozen? ⟨go11, ((ji6) : Int).toNat * 2, none⟩ = false := hfr11 0; have hf11_1 : wq_.frozen? ⟨go11, ((ji6) : Int).toNat * 2 + 1, none⟩ = false := hfr11 1; clear hcl11 hcc11 hfr11 hM11; replace p11 := eq_true p11; replace q11 := eq_true q11; have HX13 := am (show Kd.R k55 55 wq_ w0.heap.size (fun k_ => (P0_ k_ ∨ w.heap.size ≤ k_)) (.slice (some ⟨go11, 0, none⟩) l0.length co12) l0 from (zr HO0)); obtain ⟨ce13, hcl13, hM13, hcc13, hfr13⟩ := Kd.R_elem HX13.out z55 ((ji6) : Int) (of_decide_eq_true zl) (by have h_ : ((ji6) : Int) < ((l0.length : Int) : Int) := of_decide_eq_true zl; first | exact h_ | (have e_ := (Kd.R_reads' HO0.out).1; omega) | simpa using h_); obtain rfl := k55_openM hM13; have HP13 := Kd.R_seg HX13.out ((ji6) : Int) (of_decide_eq_true zl) (by have h_ : ((ji6) : Int) < ((l0.length : Int) : Int) := of_decide_eq_true zl; first | exact h_ | (have e_ := (Kd.R_reads' HO0.out).1; omega) | simpa using h_) (seg := [.string a1, .int .i64 (wrap64 (((rd_T55 l0 (ji6)).f1) + 1))]) (j := 0) hcl13 hcc13 (show 2 ≤ 2 from by decide) (x' := (⟨a1, wrap64 (((rd_T55 l0 (ji6)).f1) + 1)⟩ : S55)) (k55_mkM _ _ _ (⟨a1, wrap64 (((rd_T55 l0 (ji6)).f1) + 1)⟩ : S55) ) (fun _ hk => hk); have hx13_0 := hcc13 0 _ rfl; (try simp only [show (k55).sz = 2 from rfl, Nat.mul_one, Nat.add_zero] at hx13_0); have hf13_0 := hfr13 0; (try simp only [show (k55).sz = 2 from rfl, Nat.mul_one, Nat.add_zero] at hf13_0); have hx13_1 := hcc13 1 _ rfl; (try simp only [show (k55).sz = 2 from rfl, Nat.mul_one, Nat.add_zero] at hx13_1); have hf13_1 := hfr13 1; (try simp only [show (k55).sz = 2 from rfl, Nat.mul_one, Nat.add_zero] at hf13_1); clear hcl13 hcc13 hfr13 hM13) | ((with_reducible refine gate_store (t := 55) (p := 39) rfl ?_); refine store_event (t := 55) (p := 39) (v := ?vo_w14) (w1 := ((wq_.setCell ⟨go11, ((ji6) : Int).toNat * 2, none⟩ (.string a1)).setCell ⟨go11, ((ji6) : Int).toNat * 2 + 1, none⟩ (.int .i64 (wrap64 (((rd_T55 l0 (ji6)).f1) + 1))))) ?hg ?ho ?hn ?hr ?_; (case ho => rfl); (case hg => rfl); (case hn => rfl); (case hr => first | (go_simp; done) | (go_simp; rfl)); intro w14 hw; have hg : wq_.grownBy w14 (some go11) := (by rw [hw]; exact HP13.2); have hp_ : Kd.R k55 55 w14 w0.heap.size (fun k_ => (P0_ k_ ∨ w.heap.size ≤ k_)) (.slice (some ⟨go11, 0, none⟩) l0.length co12) y184 := (by rw [hw, Ny184.out]; exact HP13.1); clear HP13; replace HB := am ((by rw [hw]; exact below_set (below_set (HB.out) GB11.out) GB11.out : Below w0.heap.size w0 w14)); replace HK := am (Kept.of_grown (S := (fun k_ => P0_ k_)) hg (zq HK) (fun k_ e_ => (HO0.out.1 k_ e_))); replace HO0 := am (hp_); clear hg hw hp_))
 go_ret3
 exact ⟨_, by first | rfl | (simp [errW_none, errW_some] <;> rfl) | (simp only [← hji6]; first | rfl | (simp [errW_none, errW_some] <;> rfl)) | (simp [*, errW_none, errW_some] <;> rfl), (zr HO0), (zb HB), (zq HK)⟩
end Go.Proofs.Ytooamacekmjpaaa.PFnVolCount
