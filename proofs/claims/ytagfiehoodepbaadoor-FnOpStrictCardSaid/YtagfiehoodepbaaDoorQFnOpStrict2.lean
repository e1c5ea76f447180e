/- The walk: each function that the law comes to as a plain Lean function, and a proof that the Go code answers so. Written by this session's program over the kit's printer. -/
import Derived.Test.YtagfiehoodepbaaDoorZ
import Derived.Test.YtagfiehoodepbaaDoorQFnOpStrict0
import Derived.Test.YtagfiehoodepbaaDoorQFnOpStrict1
namespace Go.Proofs.YtagfiehoodepbaaDoor.PFnOpStrict
open Go.RowKit Go.Proofs.YtagfiehoodepbaaDoorW.PrintWords Go.Proofs.YtagfiehoodepbaaDoorW.PrintLast Go.Proofs.YtagfiehoodepbaaDoorW.PrintMore
attribute [local go_sem] max2_int min2_int max_two min_two max_three min_three max_four min_four   -- for this text's walks alone
set_option linter.unusedVariables false
set_option linter.unusedSimpArgs false
attribute [local go_sem high] eqA24
/-! ### impl_within: function 32 -/
def impl_within.f (a0 : Int) (a1 : Int) (a2 : Int) : Option (Bool) := if a0 ≥ a1 then (some (decide (a0 ≤ a2))) else (some false)
set_option maxHeartbeats 8000000 in
set_option maxRecDepth 100000 in
theorem impl_within.calls (a0 : Int) (a1 : Int) (a2 : Int) (r : Bool) (w : World) (h : impl_within.f a0 a1 a2 = some r) :
 Calls Tryd.prog 32 #[.int .i64 a0, .int .i64 a1, .int .i64 a2] w fun e w' => e = .returned (.bool r) ∧ Drawn0 w w' := by
 have H : (if a0 ≥ a1 then (some (decide (a0 ≤ a2))) else (some false)) = some r := h
 clear h
 by_cases c4 : a0 ≥ a1
 · rw [if_pos c4] at H
   have c4b0 : decide (a1 ≤ a0) = true := decide_eq_true c4
   clear c4
   obtain rfl := Option.some.inj H
   go_enter Tryd.func32, Tryd.ntmps32
   go_wp2
   go_ret
   exact ⟨by first | rfl | (simp; done) | (simp [*]; done), by repeat (first | exact Drawn0.refl _ | apply Drawn0.step)⟩
 rw [if_neg c4] at H
 have c4b0 : decide (a1 ≤ a0) = false := decide_eq_false c4
 clear c4
 obtain rfl := Option.some.inj H
 go_enter Tryd.func32, Tryd.ntmps32
 go_wp2
 go_ret
 exact ⟨by first | rfl | (simp; done) | (simp [*]; done), by repeat (first | exact Drawn0.refl _ | apply Drawn0.step)⟩
/-! ### impl_TextOk: function 33 -/
def impl_TextOk.l0 : Nat → ByteArray → Int → Int → Option (Bool)
 | 0, _, _, _ => none
 | k + 1, x0, x5, x6 => if x6 < x5 then (if 0 ≤ x6 then (if x6 < (x0.size : Int) then ((impl_within.f (wrap64 (bt x0 x6)) 97 100).bind fun t101 => (if t101 = true then (impl_TextOk.l0 k x0 x5 (wrap64 (x6 + 1))) else (some false))) else (none)) else (none)) else (some (decide ((x0.size : Int) ≤ 4)))
def impl_TextOk.f (k : Nat) (a0 : ByteArray) : Option (Bool) := impl_TextOk.l0 k a0 (a0.size : Int) 0
theorem impl_TextOk.mono_l : ∀ k, (∀ y0 y1 y2, LeO (impl_TextOk.l0 k y0 y1 y2) (impl_TextOk.l0 (k + 1) y0 y1 y2))
 | 0 => fun _ _ _ r h => by simp [impl_TextOk.l0] at h
 | k + 1 => by
  have ih0 := impl_TextOk.mono_l k
  intro y0 y1 y2
  unfold impl_TextOk.l0
  exact mo1 ih0
theorem impl_TextOk.mono : ∀ a0 k, LeO (impl_TextOk.f k a0) (impl_TextOk.f (k + 1) a0) := by
 intro a0 k
 have ih0 := impl_TextOk.mono_l k
 unfold impl_TextOk.f
 exact mo1 ih0
set_option maxHeartbeats 8000000 in
set_option maxRecDepth 100000 in
theorem impl_TextOk.calls (k : Nat) (a0 : ByteArray) (r : Bool) (w : World) (h : impl_TextOk.f k a0 = some r) :
 Calls Tryd.prog 33 #[.string a0] w fun e w' => e = .returned (.bool r) ∧ Drawn0 w w' := by
 have H : (impl_TextOk.l0 k a0 (a0.size : Int) 0) = some r := h
 clear h
 have H' := am H
 clear H
 go_enter Tryd.func33, Tryd.ntmps33
 go_wp2
 go_loopg [6] k (fun kq v6 w' => ∃ (x6_1 : Int), v6 = .int .i64 x6_1 ∧ Aside0 (impl_TextOk.l0 kq a0 (a0.size : Int) x6_1 = some r) ∧ Aside0 (kq ≤ k) ∧ Drawn0 w w')
 case atStart => exact ⟨(0), ze, H', ⟨Nat.le_refl _⟩, by repeat (first | exact Drawn0.refl _ | apply Drawn0.step)⟩
 case round =>
  clear H'
  obtain ⟨x6_1, rfl, HA, HK1, ⟨m1, rfl⟩⟩ := hrel
  cases gk with
  | zero => exact absurd HA.out (by simp [impl_TextOk.l0])
  | succ k1 =>
   have H := HA.out
   clear HA
   simp only [impl_TextOk.l0] at H
   by_cases c2 : x6_1 < (a0.size : Int)
   rotate_left
   · rw [if_neg c2] at H
     have c2b0 : decide (x6_1 < (a0.size : Int)) = false := decide_eq_false c2
     clear c2
     obtain rfl := Option.some.inj H
     go_wp2
     go_ret
     exact ⟨by first | rfl | (simp; done) | (simp [*]; done), by repeat (first | exact Drawn0.refl _ | apply Drawn0.step)⟩
   rw [if_pos c2] at H
   have c2b0 : decide (x6_1 < (a0.size : Int)) = true := decide_eq_true c2
   clear c2
   by_cases c3 : 0 ≤ x6_1
   rotate_left
   · rw [if_neg c3] at H
     exact absurd H (by simp)
   rw [if_pos c3] at H
   have c3b0 : decide (0 ≤ x6_1) = true := decide_eq_true c3
   clear c3
   by_cases c4 : x6_1 < (a0.size : Int)
   rotate_left
   · rw [if_neg c4] at H
     exact absurd H (by simp)
   rw [if_pos c4] at H
   have c4b0 : decide (x6_1 < (a0.size : Int)) = true := decide_eq_true c4
   clear c4
   replace H := obs H
   obtain ⟨t101, A60, H⟩ := H
   replace H : (if t101 = true then (impl_TextOk.l0 k1 a0 (a0.size : Int) (wrap64 (x6_1 + 1))) else (some false)) = some r := H
   have A6 := am A60
   clear A60
   by_cases c7 : t101 = true
   · subst c7
     have H1 : (impl_TextOk.l0 k1 a0 (a0.size : Int) (wrap64 (x6_1 + 1))) = some r := by rw [if_pos rfl] at H; exact H
     clear H
     have H := H1
     clear H1
     have H' := am H
     clear H
     have p5 : 0 ≤ (x6_1 : Int) := of_decide_eq_true zl
     have q5 : x6_1 < (a0.size : Int) := of_decide_eq_true zl
     have hx5 := bt_at a0 x6_1
     replace p5 := eq_true p5
     replace q5 := eq_true q5
     go_wp2_with (first | ((with_reducible refine gate_callee (f := 32) rfl ?_); refine goesL_ (some 13) rfl rfl Tryd.func32 (by kernel_rfl) rfl #[.int .i64 (wrap64 (bt a0 x6_1)), .int .i64 97, .int .i64 100] rfl (by (try simp only [List.map_toArray, List.map_cons, List.map_nil]); first | done | rfl | (simp only [List.length_drop, List.length_take]; rfl)) ?_; (with_reducible refine (impl_within.calls (wrap64 (bt a0 x6_1)) 97 100 true _ A6.out).mono ?_); rintro e w' ⟨rfl, ⟨nd, rfl⟩⟩; refine ⟨_, rfl, ?_⟩))
     go_roundg k1
     case measure => have := HK1.out; omega
     case rel => exact ⟨(wrap64 (x6_1 + 1)), ze, H', ⟨by have := HK1.out; omega⟩, by repeat (first | exact Drawn0.refl _ | apply Drawn0.step)⟩
   replace c7 := Bool.eq_false_iff.mpr c7
   subst c7
   have H1 : (some false) = some r := by rw [if_neg (show ¬ (false = true) by decide)] at H; exact H
   clear H
   have H := H1
   clear H1
   obtain rfl := Option.some.inj H
   have p5 : 0 ≤ (x6_1 : Int) := of_decide_eq_true zl
   have q5 : x6_1 < (a0.size : Int) := of_decide_eq_true zl
   have hx5 := bt_at a0 x6_1
   replace p5 := eq_true p5
   replace q5 := eq_true q5
   go_wp2_with (first | ((with_reducible refine gate_callee (f := 32) rfl ?_); refine goesL_ (some 13) rfl rfl Tryd.func32 (by kernel_rfl) rfl #[.int .i64 (wrap64 (bt a0 x6_1)), .int .i64 97, .int .i64 100] rfl (by (try simp only [List.map_toArray, List.map_cons, List.map_nil]); first | done | rfl | (simp only [List.length_drop, List.length_take]; rfl)) ?_; (with_reducible refine (impl_within.calls (wrap64 (bt a0 x6_1)) 97 100 false _ A6.out).mono ?_); rintro e w' ⟨rfl, ⟨nd, rfl⟩⟩; refine ⟨_, rfl, ?_⟩))
   go_ret
   exact ⟨by first | rfl | (simp; done) | (simp [*]; done), by repeat (first | exact Drawn0.refl _ | apply Drawn0.step)⟩
/-! ### impl_isName: function 34 -/
def impl_isName.f (a0 : ByteArray) : Option (Bool) := if a0.toList = ([65] : List UInt8) then (some true) else (if a0.toList = ([66] : List UInt8) then (some true) else (if a0.toList = ([67] : List UInt8) then (some true) else (some (a0.toList == ([68] : List UInt8)))))
set_option maxHeartbeats 8000000 in
set_option maxRecDepth 100000 in
theorem impl_isName.calls (a0 : ByteArray) (r : Bool) (w : World) (h : impl_isName.f a0 = some r) :
 Calls Tryd.prog 34 #[.string a0] w fun e w' => e = .returned (.bool r) ∧ Drawn0 w w' := by
 have H : (if a0.toList = ([65] : List UInt8) then (some true) else (if a0.toList = ([66] : List UInt8) then (some true) else (if a0.toList = ([67] : List UInt8) then (some true) else (some (a0.toList == ([68] : List UInt8)))))) = some r := h
 clear h
 by_cases c2 : a0.toList = ([65] : List UInt8)
 · rw [if_pos c2] at H
   have c2b0 : (a0.toList == ([65] : List UInt8)) = true := beq_iff_eq.mpr c2
   have c2b1 : (a0.toList != ([65] : List UInt8)) = false := bne_eq_false_iff_eq.mpr c2
   clear c2
   obtain rfl := Option.some.inj H
   go_enter Tryd.func34, Tryd.ntmps34
   go_wp2
   go_ret
   exact ⟨by first | rfl | (simp; done) | (simp [*]; done), by repeat (first | exact Drawn0.refl _ | apply Drawn0.step)⟩
 rw [if_neg c2] at H
 have c2b0 : (a0.toList == ([65] : List UInt8)) = false := beq_eq_false_iff_ne.mpr c2
 have c2b1 : (a0.toList != ([65] : List UInt8)) = true := bne_iff_ne.mpr c2
 by_cases c3 : a0.toList = ([66] : List UInt8)
 · rw [if_pos c3] at H
   have c3b0 : (a0.toList == ([66] : List UInt8)) = true := beq_iff_eq.mpr c3
   have c3b1 : (a0.toList != ([66] : List UInt8)) = false := bne_eq_false_iff_eq.mpr c3
   clear c3
   obtain rfl := Option.some.inj H
   go_enter Tryd.func34, Tryd.ntmps34
   go_wp2
   go_ret
   exact ⟨by first | rfl | (simp; done) | (simp [*]; done), by repeat (first | exact Drawn0.refl _ | apply Drawn0.step)⟩
 rw [if_neg c3] at H
 have c3b0 : (a0.toList == ([66] : List UInt8)) = false := beq_eq_false_iff_ne.mpr c3
 have c3b1 : (a0.toList != ([66] : List UInt8)) = true := bne_iff_ne.mpr c3
 by_cases c4 : a0.toList = ([67] : List UInt8)
 · rw [if_pos c4] at H
   have c4b0 : (a0.toList == ([67] : List UInt8)) = true := beq_iff_eq.mpr c4
   have c4b1 : (a0.toList != ([67] : List UInt8)) = false := bne_eq_false_iff_eq.mpr c4
   clear c4
   obtain rfl := Option.some.inj H
   go_enter Tryd.func34, Tryd.ntmps34
   go_wp2
   go_ret
   exact ⟨by first | rfl | (simp; done) | (simp [*]; done), by repeat (first | exact Drawn0.refl _ | apply Drawn0.step)⟩
 rw [if_neg c4] at H
 have c4b0 : (a0.toList == ([67] : List UInt8)) = false := beq_eq_false_iff_ne.mpr c4
 have c4b1 : (a0.toList != ([67] : List UInt8)) = true := bne_iff_ne.mpr c4
 obtain rfl := Option.some.inj H
 go_enter Tryd.func34, Tryd.ntmps34
 go_wp2
 go_ret
 exact ⟨by first | rfl | (simp; done) | (simp [*]; done), by repeat (first | exact Drawn0.refl _ | apply Drawn0.step)⟩
/-! ### impl_OpOk: function 16 -/
def impl_OpOk.f (k : Nat) (a0_0 : Int) (a0_1 : ByteArray) (a0_2 : ByteArray) (a0_3 : Int) (a0_4 : ByteArray) : Option (Bool) := if a0_0 = 1 then ((impl_within.f a0_3 1 6).bind fun t112 => (if t112 = true then ((impl_isName.f a0_1).bind fun t113 => (if t113 = true then (some (a0_2.toList == ([] : List UInt8) && (a0_4.toList == ([] : List UInt8)))) else (some false))) else (some false))) else (if a0_0 = 2 then ((impl_within.f a0_3 0 5).bind fun t114 => (if t114 = true then ((impl_TextOk.f k a0_4).bind fun t115 => (if t115 = true then ((impl_isName.f a0_1).bind fun t116 => (if t116 = true then (some (a0_2.toList == ([] : List UInt8))) else (some false))) else (some false))) else (some false))) else (if a0_0 = 3 then ((impl_isName.f a0_2).bind fun t117 => (if t117 = true then ((impl_isName.f a0_1).bind fun t118 => (if t118 = true then (some (a0_3 == 0 && (a0_4.toList == ([] : List UInt8)))) else (some false))) else (some false))) else (if a0_0 = 4 then ((impl_isName.f a0_1).bind fun t119 => (if t119 = true then (some (a0_2.toList == ([] : List UInt8) && (a0_3 == 0 && (a0_4.toList == ([] : List UInt8))))) else (some false))) else (some false))))
theorem impl_OpOk.mono : ∀ a0 a1 a2 a3 a4 k, LeO (impl_OpOk.f k a0 a1 a2 a3 a4) (impl_OpOk.f (k + 1) a0 a1 a2 a3 a4) := by
 intro a0 a1 a2 a3 a4 k
 unfold impl_OpOk.f
 exact mo1 @impl_TextOk.mono
set_option maxHeartbeats 2000000 in
set_option maxRecDepth 100000 in
theorem impl_OpOk.c1f (k : Nat) (a0_1 : ByteArray) (a0_2 : ByteArray) (a0_3 : Int) (a0_4 : ByteArray) (w : World) (A3 : Aside0 (impl_within.f a0_3 1 6 = some false)) :
 Calls Tryd.prog 16 #[.agg #[.int .i64 1, .string a0_1, .string a0_2, .int .i64 a0_3, .string a0_4]] w fun e w' => e = .returned (.bool false) ∧ Below w.heap.size w w' := by
 go_enter Tryd.func16, Tryd.ntmps16
 go_wp2_with (first | (go_at_call 32; (with_reducible refine (impl_within.calls a0_3 1 6 false _ A3.out).mono ?_); rintro e w' ⟨rfl, ⟨nd, rfl⟩⟩))
 go_ret
 exact ⟨by first | rfl | (simp; done) | (simp [*]; done), by repeat (first | exact Below.refl _ _ | apply below_alloc | apply pw_below_drewN | apply below_drew)⟩
set_option maxHeartbeats 2000000 in
set_option maxRecDepth 100000 in
theorem impl_OpOk.c1tf (k : Nat) (a0_1 : ByteArray) (a0_2 : ByteArray) (a0_3 : Int) (a0_4 : ByteArray) (w : World) (A3 : Aside0 (impl_within.f a0_3 1 6 = some true)) (A5 : Aside0 (impl_isName.f a0_1 = some false)) :
 Calls Tryd.prog 16 #[.agg #[.int .i64 1, .string a0_1, .string a0_2, .int .i64 a0_3, .string a0_4]] w fun e w' => e = .returned (.bool false) ∧ Below w.heap.size w w' := by
 go_enter Tryd.func16, Tryd.ntmps16
 go_wp2_with (first | (go_at_call 32; (with_reducible refine (impl_within.calls a0_3 1 6 true _ A3.out).mono ?_); rintro e w' ⟨rfl, ⟨nd, rfl⟩⟩) | (go_at_call 34; (with_reducible refine (impl_isName.calls a0_1 false _ A5.out).mono ?_); rintro e w' ⟨rfl, ⟨nd, rfl⟩⟩))
 go_ret
 exact ⟨by first | rfl | (simp; done) | (simp [*]; done), by repeat (first | exact Below.refl _ _ | apply below_alloc | apply pw_below_drewN | apply below_drew)⟩
set_option maxHeartbeats 2000000 in
set_option maxRecDepth 100000 in
theorem impl_OpOk.c1tt (k : Nat) (a0_1 : ByteArray) (a0_2 : ByteArray) (a0_3 : Int) (a0_4 : ByteArray) (w : World) (A3 : Aside0 (impl_within.f a0_3 1 6 = some true)) (A5 : Aside0 (impl_isName.f a0_1 = some true)) :
 Calls Tryd.prog 16 #[.agg #[.int .i64 1, .string a0_1, .string a0_2, .int .i64 a0_3, .string a0_4]] w fun e w' => e = .returned (.bool (a0_2.toList == ([] : List UInt8) && (a0_4.toList == ([] : List UInt8)))) ∧ Below w.heap.size w w' := by
 go_enter Tryd.func16, Tryd.ntmps16
 go_wp2_with (first | (go_at_call 32; (with_reducible refine (impl_within.calls a0_3 1 6 true _ A3.out).mono ?_); rintro e w' ⟨rfl, ⟨nd, rfl⟩⟩) | (go_at_call 34; (with_reducible refine (impl_isName.calls a0_1 true _ A5.out).mono ?_); rintro e w' ⟨rfl, ⟨nd, rfl⟩⟩))
 go_ret
 exact ⟨by first | rfl | (simp; done) | (simp [*]; done), by repeat (first | exact Below.refl _ _ | apply below_alloc | apply pw_below_drewN | apply below_drew)⟩
set_option maxHeartbeats 2000000 in
set_option maxRecDepth 100000 in
theorem impl_OpOk.c2f (k : Nat) (a0_1 : ByteArray) (a0_2 : ByteArray) (a0_3 : Int) (a0_4 : ByteArray) (w : World) (A3 : Aside0 (impl_within.f a0_3 0 5 = some false)) :
 Calls Tryd.prog 16 #[.agg #[.int .i64 2, .string a0_1, .string a0_2, .int .i64 a0_3, .string a0_4]] w fun e w' => e = .returned (.bool false) ∧ Below w.heap.size w w' := by
 go_enter Tryd.func16, Tryd.ntmps16
 go_wp2
 go_region
 go_wp2_with (first | (go_at_call 32; (with_reducible refine (impl_within.calls a0_3 0 5 false _ A3.out).mono ?_); rintro e w' ⟨rfl, ⟨nd, rfl⟩⟩))
 go_ret
 exact ⟨by first | rfl | (simp; done) | (simp [*]; done), by repeat (first | exact Below.refl _ _ | apply below_alloc | apply pw_below_drewN | apply below_drew)⟩
set_option maxHeartbeats 2000000 in
set_option maxRecDepth 100000 in
theorem impl_OpOk.c2tf (k : Nat) (a0_1 : ByteArray) (a0_2 : ByteArray) (a0_3 : Int) (a0_4 : ByteArray) (w : World) (A3 : Aside0 (impl_within.f a0_3 0 5 = some true)) (A4 : Aside0 (impl_TextOk.f k a0_4 = some false)) :
 Calls Tryd.prog 16 #[.agg #[.int .i64 2, .string a0_1, .string a0_2, .int .i64 a0_3, .string a0_4]] w fun e w' => e = .returned (.bool false) ∧ Below w.heap.size w w' := by
 go_enter Tryd.func16, Tryd.ntmps16
 go_wp2
 go_region
 go_wp2_with (first | (go_at_call 32; (with_reducible refine (impl_within.calls a0_3 0 5 true _ A3.out).mono ?_); rintro e w' ⟨rfl, ⟨nd, rfl⟩⟩) | (go_at_call 33; (with_reducible refine (impl_TextOk.calls k a0_4 false _ A4.out).mono ?_); rintro e w' ⟨rfl, ⟨nd, rfl⟩⟩))
 go_ret
 exact ⟨by first | rfl | (simp; done) | (simp [*]; done), by repeat (first | exact Below.refl _ _ | apply below_alloc | apply pw_below_drewN | apply below_drew)⟩
set_option maxHeartbeats 2000000 in
set_option maxRecDepth 100000 in
theorem impl_OpOk.c2ttf (k : Nat) (a0_1 : ByteArray) (a0_2 : ByteArray) (a0_3 : Int) (a0_4 : ByteArray) (w : World) (A3 : Aside0 (impl_within.f a0_3 0 5 = some true)) (A4 : Aside0 (impl_TextOk.f k a0_4 = some true)) (A5 : Aside0 (impl_isName.f a0_1 = some false)) :
 Calls Tryd.prog 16 #[.agg #[.int .i64 2, .string a0_1, .string a0_2, .int .i64 a0_3, .string a0_4]] w fun e w' => e = .returned (.bool false) ∧ Below w.heap.size w w' := by
 go_enter Tryd.func16, Tryd.ntmps16
 go_wp2
 go_region
 go_wp2_with (first | (go_at_call 32; (with_reducible refine (impl_within.calls a0_3 0 5 true _ A3.out).mono ?_); rintro e w' ⟨rfl, ⟨nd, rfl⟩⟩) | (go_at_call 33; (with_reducible refine (impl_TextOk.calls k a0_4 true _ A4.out).mono ?_); rintro e w' ⟨rfl, ⟨nd, rfl⟩⟩) | (go_at_call 34; (with_reducible refine (impl_isName.calls a0_1 false _ A5.out).mono ?_); rintro e w' ⟨rfl, ⟨nd, rfl⟩⟩))
 go_ret
 exact ⟨by first | rfl | (simp; done) | (simp [*]; done), by repeat (first | exact Below.refl _ _ | apply below_alloc | apply pw_below_drewN | apply below_drew)⟩
set_option maxHeartbeats 2000000 in
set_option maxRecDepth 100000 in
theorem impl_OpOk.c2ttt (k : Nat) (a0_1 : ByteArray) (a0_2 : ByteArray) (a0_3 : Int) (a0_4 : ByteArray) (w : World) (A3 : Aside0 (impl_within.f a0_3 0 5 = some true)) (A4 : Aside0 (impl_TextOk.f k a0_4 = some true)) (A5 : Aside0 (impl_isName.f a0_1 = some true)) :
 Calls Tryd.prog 16 #[.agg #[.int .i64 2, .string a0_1, .string a0_2, .int .i64 a0_3, .string a0_4]] w fun e w' => e = .returned (.bool (a0_2.toList == ([] : List UInt8))) ∧ Below w.heap.size w w' := by
 go_enter Tryd.func16, Tryd.ntmps16
 go_wp2
 go_region
 go_wp2_with (first | (go_at_call 32; (with_reducible refine (impl_within.calls a0_3 0 5 true _ A3.out).mono ?_); rintro e w' ⟨rfl, ⟨nd, rfl⟩⟩) | (go_at_call 33; (with_reducible refine (impl_TextOk.calls k a0_4 true _ A4.out).mono ?_); rintro e w' ⟨rfl, ⟨nd, rfl⟩⟩) | (go_at_call 34; (with_reducible refine (impl_isName.calls a0_1 true _ A5.out).mono ?_); rintro e w' ⟨rfl, ⟨nd, rfl⟩⟩))
 go_ret
 exact ⟨by first | rfl | (simp; done) | (simp [*]; done), by repeat (first | exact Below.refl _ _ | apply below_alloc | apply pw_below_drewN | apply below_drew)⟩
set_option maxHeartbeats 2000000 in
set_option maxRecDepth 100000 in
theorem impl_OpOk.c3f (k : Nat) (a0_1 : ByteArray) (a0_2 : ByteArray) (a0_3 : Int) (a0_4 : ByteArray) (w : World) (A6 : Aside0 (impl_isName.f a0_2 = some false)) :
 Calls Tryd.prog 16 #[.agg #[.int .i64 3, .string a0_1, .string a0_2, .int .i64 a0_3, .string a0_4]] w fun e w' => e = .returned (.bool false) ∧ Below w.heap.size w w' := by
 go_enter Tryd.func16, Tryd.ntmps16
 go_wp2_with (first | (go_at_call 34; (with_reducible refine (impl_isName.calls a0_2 false _ A6.out).mono ?_); rintro e w' ⟨rfl, ⟨nd, rfl⟩⟩))
 go_ret
 exact ⟨by first | rfl | (simp; done) | (simp [*]; done), by repeat (first | exact Below.refl _ _ | apply below_alloc | apply pw_below_drewN | apply below_drew)⟩
set_option maxHeartbeats 2000000 in
set_option maxRecDepth 100000 in
theorem impl_OpOk.c3tf (k : Nat) (a0_1 : ByteArray) (a0_2 : ByteArray) (a0_3 : Int) (a0_4 : ByteArray) (w : World) (A6 : Aside0 (impl_isName.f a0_2 = some true)) (A5 : Aside0 (impl_isName.f a0_1 = some false)) :
 Calls Tryd.prog 16 #[.agg #[.int .i64 3, .string a0_1, .string a0_2, .int .i64 a0_3, .string a0_4]] w fun e w' => e = .returned (.bool false) ∧ Below w.heap.size w w' := by
 go_enter Tryd.func16, Tryd.ntmps16
 go_wp2_with (first | (go_at_call 34; (with_reducible refine (impl_isName.calls a0_2 true _ A6.out).mono ?_); rintro e w' ⟨rfl, ⟨nd, rfl⟩⟩) | (go_at_call 34; (with_reducible refine (impl_isName.calls a0_1 false _ A5.out).mono ?_); rintro e w' ⟨rfl, ⟨nd, rfl⟩⟩))
 go_ret
 exact ⟨by first | rfl | (simp; done) | (simp [*]; done), by repeat (first | exact Below.refl _ _ | apply below_alloc | apply pw_below_drewN | apply below_drew)⟩
set_option maxHeartbeats 2000000 in
set_option maxRecDepth 100000 in
theorem impl_OpOk.c3tt (k : Nat) (a0_1 : ByteArray) (a0_2 : ByteArray) (a0_3 : Int) (a0_4 : ByteArray) (w : World) (A6 : Aside0 (impl_isName.f a0_2 = some true)) (A5 : Aside0 (impl_isName.f a0_1 = some true)) :
 Calls Tryd.prog 16 #[.agg #[.int .i64 3, .string a0_1, .string a0_2, .int .i64 a0_3, .string a0_4]] w fun e w' => e = .returned (.bool (a0_3 == 0 && (a0_4.toList == ([] : List UInt8)))) ∧ Below w.heap.size w w' := by
 go_enter Tryd.func16, Tryd.ntmps16
 go_wp2_with (first | (go_at_call 34; (with_reducible refine (impl_isName.calls a0_2 true _ A6.out).mono ?_); rintro e w' ⟨rfl, ⟨nd, rfl⟩⟩) | (go_at_call 34; (with_reducible refine (impl_isName.calls a0_1 true _ A5.out).mono ?_); rintro e w' ⟨rfl, ⟨nd, rfl⟩⟩))
 go_ret
 exact ⟨by first | rfl | (simp; done) | (simp [*]; done), by repeat (first | exact Below.refl _ _ | apply below_alloc | apply pw_below_drewN | apply below_drew)⟩
set_option maxHeartbeats 2000000 in
set_option maxRecDepth 100000 in
theorem impl_OpOk.c4f (k : Nat) (a0_1 : ByteArray) (a0_2 : ByteArray) (a0_3 : Int) (a0_4 : ByteArray) (w : World) (A5 : Aside0 (impl_isName.f a0_1 = some false)) :
 Calls Tryd.prog 16 #[.agg #[.int .i64 4, .string a0_1, .string a0_2, .int .i64 a0_3, .string a0_4]] w fun e w' => e = .returned (.bool false) ∧ Below w.heap.size w w' := by
 go_enter Tryd.func16, Tryd.ntmps16
 go_wp2_with (first | (go_at_call 34; (with_reducible refine (impl_isName.calls a0_1 false _ A5.out).mono ?_); rintro e w' ⟨rfl, ⟨nd, rfl⟩⟩))
 go_ret
 exact ⟨by first | rfl | (simp; done) | (simp [*]; done), by repeat (first | exact Below.refl _ _ | apply below_alloc | apply pw_below_drewN | apply below_drew)⟩
set_option maxHeartbeats 2000000 in
set_option maxRecDepth 100000 in
theorem impl_OpOk.c4t (k : Nat) (a0_1 : ByteArray) (a0_2 : ByteArray) (a0_3 : Int) (a0_4 : ByteArray) (w : World) (A5 : Aside0 (impl_isName.f a0_1 = some true)) :
 Calls Tryd.prog 16 #[.agg #[.int .i64 4, .string a0_1, .string a0_2, .int .i64 a0_3, .string a0_4]] w fun e w' => e = .returned (.bool (a0_2.toList == ([] : List UInt8) && (a0_3 == 0 && (a0_4.toList == ([] : List UInt8))))) ∧ Below w.heap.size w w' := by
 go_enter Tryd.func16, Tryd.ntmps16
 go_wp2_with (first | (go_at_call 34; (with_reducible refine (impl_isName.calls a0_1 true _ A5.out).mono ?_); rintro e w' ⟨rfl, ⟨nd, rfl⟩⟩))
 go_ret
 exact ⟨by first | rfl | (simp; done) | (simp [*]; done), by repeat (first | exact Below.refl _ _ | apply below_alloc | apply pw_below_drewN | apply below_drew)⟩
set_option maxHeartbeats 2000000 in
set_option maxRecDepth 100000 in
theorem impl_OpOk.c5 (k : Nat) (a0_0 : Int) (a0_1 : ByteArray) (a0_2 : ByteArray) (a0_3 : Int) (a0_4 : ByteArray) (w : World) (h1 : (a0_0 == 1) = false) (h2 : (a0_0 == 2) = false) (h3 : (a0_0 == 3) = false) (h4 : (a0_0 == 4) = false) :
 Calls Tryd.prog 16 #[.agg #[.int .i64 a0_0, .string a0_1, .string a0_2, .int .i64 a0_3, .string a0_4]] w fun e w' => e = .returned (.bool false) ∧ Below w.heap.size w w' := by
 go_enter Tryd.func16, Tryd.ntmps16
 go_wp2
 go_ret
 exact ⟨by first | rfl | (simp; done) | (simp [*]; done), by repeat (first | exact Below.refl _ _ | apply below_alloc | apply pw_below_drewN | apply below_drew)⟩
theorem impl_OpOk.calls (k : Nat) (a0_0 : Int) (a0_1 : ByteArray) (a0_2 : ByteArray) (a0_3 : Int) (a0_4 : ByteArray) (r : Bool) (w : World) (h : impl_OpOk.f k a0_0 a0_1 a0_2 a0_3 a0_4 = some r) :
 Calls Tryd.prog 16 #[.agg #[.int .i64 a0_0, .string a0_1, .string a0_2, .int .i64 a0_3, .string a0_4]] w fun e w' => e = .returned (.bool r) ∧ Below w.heap.size w w' := by
 unfold impl_OpOk.f at h
 by_cases c1 : a0_0 = 1
 · subst c1
   rw [if_pos rfl] at h
   obtain ⟨t1, A3, h⟩ := Option.bind_eq_some_iff.mp h
   cases t1 with
   | false => rw [if_neg (by decide)] at h; obtain rfl := Option.some.inj h; exact impl_OpOk.c1f k a0_1 a0_2 a0_3 a0_4 w ⟨A3⟩
   | true =>
    rw [if_pos rfl] at h
    obtain ⟨t2, A5, h⟩ := Option.bind_eq_some_iff.mp h
    cases t2 with
    | false => rw [if_neg (by decide)] at h; obtain rfl := Option.some.inj h; exact impl_OpOk.c1tf k a0_1 a0_2 a0_3 a0_4 w ⟨A3⟩ ⟨A5⟩
    | true => rw [if_pos rfl] at h; obtain rfl := Option.some.inj h; exact impl_OpOk.c1tt k a0_1 a0_2 a0_3 a0_4 w ⟨A3⟩ ⟨A5⟩
 rw [if_neg c1] at h
 by_cases c2 : a0_0 = 2
 · subst c2
   rw [if_pos rfl] at h
   obtain ⟨t1, A3, h⟩ := Option.bind_eq_some_iff.mp h
   cases t1 with
   | false => rw [if_neg (by decide)] at h; obtain rfl := Option.some.inj h; exact impl_OpOk.c2f k a0_1 a0_2 a0_3 a0_4 w ⟨A3⟩
   | true =>
    rw [if_pos rfl] at h
    obtain ⟨t2, A4, h⟩ := Option.bind_eq_some_iff.mp h
    cases t2 with
    | false => rw [if_neg (by decide)] at h; obtain rfl := Option.some.inj h; exact impl_OpOk.c2tf k a0_1 a0_2 a0_3 a0_4 w ⟨A3⟩ ⟨A4⟩
    | true =>
     rw [if_pos rfl] at h
     obtain ⟨t3, A5, h⟩ := Option.bind_eq_some_iff.mp h
     cases t3 with
     | false => rw [if_neg (by decide)] at h; obtain rfl := Option.some.inj h; exact impl_OpOk.c2ttf k a0_1 a0_2 a0_3 a0_4 w ⟨A3⟩ ⟨A4⟩ ⟨A5⟩
     | true => rw [if_pos rfl] at h; obtain rfl := Option.some.inj h; exact impl_OpOk.c2ttt k a0_1 a0_2 a0_3 a0_4 w ⟨A3⟩ ⟨A4⟩ ⟨A5⟩
 rw [if_neg c2] at h
 by_cases c3 : a0_0 = 3
 · subst c3
   rw [if_pos rfl] at h
   obtain ⟨t1, A6, h⟩ := Option.bind_eq_some_iff.mp h
   cases t1 with
   | false => rw [if_neg (by decide)] at h; obtain rfl := Option.some.inj h; exact impl_OpOk.c3f k a0_1 a0_2 a0_3 a0_4 w ⟨A6⟩
   | true =>
    rw [if_pos rfl] at h
    obtain ⟨t2, A5, h⟩ := Option.bind_eq_some_iff.mp h
    cases t2 with
    | false => rw [if_neg (by decide)] at h; obtain rfl := Option.some.inj h; exact impl_OpOk.c3tf k a0_1 a0_2 a0_3 a0_4 w ⟨A6⟩ ⟨A5⟩
    | true => rw [if_pos rfl] at h; obtain rfl := Option.some.inj h; exact impl_OpOk.c3tt k a0_1 a0_2 a0_3 a0_4 w ⟨A6⟩ ⟨A5⟩
 rw [if_neg c3] at h
 by_cases c4 : a0_0 = 4
 · subst c4
   rw [if_pos rfl] at h
   obtain ⟨t2, A5, h⟩ := Option.bind_eq_some_iff.mp h
   cases t2 with
   | false => rw [if_neg (by decide)] at h; obtain rfl := Option.some.inj h; exact impl_OpOk.c4f k a0_1 a0_2 a0_3 a0_4 w ⟨A5⟩
   | true => rw [if_pos rfl] at h; obtain rfl := Option.some.inj h; exact impl_OpOk.c4t k a0_1 a0_2 a0_3 a0_4 w ⟨A5⟩
 rw [if_neg c4] at h
 obtain rfl := Option.some.inj h
 exact impl_OpOk.c5 k a0_0 a0_1 a0_2 a0_3 a0_4 w (beq_eq_false_iff_ne.2 c1) (beq_eq_false_iff_ne.2 c2) (beq_eq_false_iff_ne.2 c3) (beq_eq_false_iff_ne.2 c4)
-- NOT PRINTED: function 52 (strconv_small)
-- NOT PRINTED: function 63 (strconv_log10Pow2)
-- NOT PRINTED: function 64 (bits_Len64)
-- NOT PRINTED: function 65 (strconv_bool2_int)
-- NOT PRINTED: function 53 (strconv_numDigits)
-- NOT PRINTED: function 54 (strconv_formatBase10)
-- NOT PRINTED: function 66 (strconv_isPowerOfTwo)
-- NOT PRINTED: function 75 (bits_TrailingZeros32)
-- NOT PRINTED: function 76 (bits_TrailingZeros64)
-- NOT PRINTED: function 67 (bits_TrailingZeros)
-- NOT PRINTED: function 55 (strconv_formatBits)
-- NOT PRINTED: function 43 (strconv_FormatInt)
-- NOT PRINTED: function 36 (strconv_Itoa_36)
/-! ### strconv_Itoa_22: function 22 -/
/-- The decimal numeral of a number below a hundred. -/
def strconv_Itoa_22.f (a0 : Int) : Option ByteArray := if 0 ≤ a0 ∧ a0 < 100 then some ⟨(Lib.decDigits a0.toNat).toArray⟩ else none
theorem strconv_Itoa_22.calls (a0 : Int) (r : ByteArray) (w : World) (h : strconv_Itoa_22.f a0 = some r) :
 Calls Tryd.prog 22 #[.int .i64 a0] w fun e w' => e = .returned (.string r) ∧ Drawn0 w w' := by
 unfold strconv_Itoa_22.f at h
 by_cases c : 0 ≤ a0 ∧ a0 < 100
 rotate_left
 · rw [if_neg c] at h
   cases h
 rw [if_pos c] at h
 obtain rfl := Option.some.inj h
 have := Tryd.strconv_Itoa_small a0.toNat (by omega) w
 rw [show ((a0.toNat : Nat) : Int) = a0 from by omega] at this
 exact this.mono fun e w' ⟨he, hw⟩ => ⟨he, ⟨0, by rw [hw]; first | rfl | exact drewN_self w⟩⟩
/-! ### impl_OpText: function 10 -/
def impl_OpText.f (k : Nat) (a0_0 : Int) (a0_1 : ByteArray) (a0_2 : ByteArray) (a0_3 : Int) (a0_4 : ByteArray) : Option (ByteArray) := (impl_OpOk.f k a0_0 a0_1 a0_2 a0_3 a0_4).bind fun t103 => (if t103 = true then ((strconv_Itoa_22.f a0_3).bind fun t104 => (if a0_0 = 1 then (if 5 + a0_1.size ≤ 9223372036854775807 then (if ((⟨#[109, 97, 107, 101, 32]⟩ : ByteArray) ++ a0_1).size + 1 ≤ 9223372036854775807 then (if (((⟨#[109, 97, 107, 101, 32]⟩ : ByteArray) ++ a0_1) ++ (⟨#[32]⟩ : ByteArray)).size + t104.size ≤ 9223372036854775807 then (some ((((⟨#[109, 97, 107, 101, 32]⟩ : ByteArray) ++ a0_1) ++ (⟨#[32]⟩ : ByteArray)) ++ t104)) else (none)) else (none)) else (none)) else (if a0_0 = 3 then (if 6 + a0_1.size ≤ 9223372036854775807 then (if ((⟨#[99, 108, 111, 110, 101, 32]⟩ : ByteArray) ++ a0_1).size + 1 ≤ 9223372036854775807 then (if (((⟨#[99, 108, 111, 110, 101, 32]⟩ : ByteArray) ++ a0_1) ++ (⟨#[32]⟩ : ByteArray)).size + a0_2.size ≤ 9223372036854775807 then (some ((((⟨#[99, 108, 111, 110, 101, 32]⟩ : ByteArray) ++ a0_1) ++ (⟨#[32]⟩ : ByteArray)) ++ a0_2)) else (none)) else (none)) else (none)) else (if a0_0 = 4 then (if 5 + a0_1.size ≤ 9223372036854775807 then (some ((⟨#[103, 111, 110, 101, 32]⟩ : ByteArray) ++ a0_1)) else (none)) else (if a0_4.toList = ([] : List UInt8) then (if 5 + a0_1.size ≤ 9223372036854775807 then (if ((⟨#[102, 114, 101, 101, 32]⟩ : ByteArray) ++ a0_1).size + 1 ≤ 9223372036854775807 then (if (((⟨#[102, 114, 101, 101, 32]⟩ : ByteArray) ++ a0_1) ++ (⟨#[32]⟩ : ByteArray)).size + t104.size ≤ 9223372036854775807 then (some ((((⟨#[102, 114, 101, 101, 32]⟩ : ByteArray) ++ a0_1) ++ (⟨#[32]⟩ : ByteArray)) ++ t104)) else (none)) else (none)) else (none)) else (if 6 + a0_1.size ≤ 9223372036854775807 then (if ((⟨#[119, 114, 105, 116, 101, 32]⟩ : ByteArray) ++ a0_1).size + 1 ≤ 9223372036854775807 then (if (((⟨#[119, 114, 105, 116, 101, 32]⟩ : ByteArray) ++ a0_1) ++ (⟨#[32]⟩ : ByteArray)).size + t104.size ≤ 9223372036854775807 then (if ((((⟨#[119, 114, 105, 116, 101, 32]⟩ : ByteArray) ++ a0_1) ++ (⟨#[32]⟩ : ByteArray)) ++ t104).size + 1 ≤ 9223372036854775807 then (if (((((⟨#[119, 114, 105, 116, 101, 32]⟩ : ByteArray) ++ a0_1) ++ (⟨#[32]⟩ : ByteArray)) ++ t104) ++ (⟨#[32]⟩ : ByteArray)).size + a0_4.size ≤ 9223372036854775807 then (some ((((((⟨#[119, 114, 105, 116, 101, 32]⟩ : ByteArray) ++ a0_1) ++ (⟨#[32]⟩ : ByteArray)) ++ t104) ++ (⟨#[32]⟩ : ByteArray)) ++ a0_4)) else (none)) else (none)) else (none)) else (none)) else (none))))))) else (some (⟨#[]⟩ : ByteArray)))
theorem impl_OpText.mono : ∀ a0 a1 a2 a3 a4 k, LeO (impl_OpText.f k a0 a1 a2 a3 a4) (impl_OpText.f (k + 1) a0 a1 a2 a3 a4) := by
 intro a0 a1 a2 a3 a4 k
 unfold impl_OpText.f
 exact mo1 @impl_OpOk.mono
set_option maxHeartbeats 8000000 in
set_option maxRecDepth 100000 in
theorem impl_OpText.calls (k : Nat) (a0_0 : Int) (a0_1 : ByteArray) (a0_2 : ByteArray) (a0_3 : Int) (a0_4 : ByteArray) (r : ByteArray) (w : World) (h : impl_OpText.f k a0_0 a0_1 a0_2 a0_3 a0_4 = some r) :
 Calls Tryd.prog 10 #[.agg #[.int .i64 a0_0, .string a0_1, .string a0_2, .int .i64 a0_3, .string a0_4]] w fun e w' => e = .returned (.string r) ∧ Below w.heap.size w w' := by
 have hu24 := Tryd.underlying24
 have HB := am (Below.refl w.heap.size w)
 have H : ((impl_OpOk.f k a0_0 a0_1 a0_2 a0_3 a0_4).bind fun t103 => (if t103 = true then ((strconv_Itoa_22.f a0_3).bind fun t104 => (if a0_0 = 1 then (if 5 + a0_1.size ≤ 9223372036854775807 then (if ((⟨#[109, 97, 107, 101, 32]⟩ : ByteArray) ++ a0_1).size + 1 ≤ 9223372036854775807 then (if (((⟨#[109, 97, 107, 101, 32]⟩ : ByteArray) ++ a0_1) ++ (⟨#[32]⟩ : ByteArray)).size + t104.size ≤ 9223372036854775807 then (some ((((⟨#[109, 97, 107, 101, 32]⟩ : ByteArray) ++ a0_1) ++ (⟨#[32]⟩ : ByteArray)) ++ t104)) else (none)) else (none)) else (none)) else (if a0_0 = 3 then (if 6 + a0_1.size ≤ 9223372036854775807 then (if ((⟨#[99, 108, 111, 110, 101, 32]⟩ : ByteArray) ++ a0_1).size + 1 ≤ 9223372036854775807 then (if (((⟨#[99, 108, 111, 110, 101, 32]⟩ : ByteArray) ++ a0_1) ++ (⟨#[32]⟩ : ByteArray)).size + a0_2.size ≤ 9223372036854775807 then (some ((((⟨#[99, 108, 111, 110, 101, 32]⟩ : ByteArray) ++ a0_1) ++ (⟨#[32]⟩ : ByteArray)) ++ a0_2)) else (none)) else (none)) else (none)) else (if a0_0 = 4 then (if 5 + a0_1.size ≤ 9223372036854775807 then (some ((⟨#[103, 111, 110, 101, 32]⟩ : ByteArray) ++ a0_1)) else (none)) else (if a0_4.toList = ([] : List UInt8) then (if 5 + a0_1.size ≤ 9223372036854775807 then (if ((⟨#[102, 114, 101, 101, 32]⟩ : ByteArray) ++ a0_1).size + 1 ≤ 9223372036854775807 then (if (((⟨#[102, 114, 101, 101, 32]⟩ : ByteArray) ++ a0_1) ++ (⟨#[32]⟩ : ByteArray)).size + t104.size ≤ 9223372036854775807 then (some ((((⟨#[102, 114, 101, 101, 32]⟩ : ByteArray) ++ a0_1) ++ (⟨#[32]⟩ : ByteArray)) ++ t104)) else (none)) else (none)) else (none)) else (if 6 + a0_1.size ≤ 9223372036854775807 then (if ((⟨#[119, 114, 105, 116, 101, 32]⟩ : ByteArray) ++ a0_1).size + 1 ≤ 9223372036854775807 then (if (((⟨#[119, 114, 105, 116, 101, 32]⟩ : ByteArray) ++ a0_1) ++ (⟨#[32]⟩ : ByteArray)).size + t104.size ≤ 9223372036854775807 then (if ((((⟨#[119, 114, 105, 116, 101, 32]⟩ : ByteArray) ++ a0_1) ++ (⟨#[32]⟩ : ByteArray)) ++ t104).size + 1 ≤ 9223372036854775807 then (if (((((⟨#[119, 114, 105, 116, 101, 32]⟩ : ByteArray) ++ a0_1) ++ (⟨#[32]⟩ : ByteArray)) ++ t104) ++ (⟨#[32]⟩ : ByteArray)).size + a0_4.size ≤ 9223372036854775807 then (some ((((((⟨#[119, 114, 105, 116, 101, 32]⟩ : ByteArray) ++ a0_1) ++ (⟨#[32]⟩ : ByteArray)) ++ t104) ++ (⟨#[32]⟩ : ByteArray)) ++ a0_4)) else (none)) else (none)) else (none)) else (none)) else (none))))))) else (some (⟨#[]⟩ : ByteArray)))) = some r := h
 clear h
 replace H := obs H
 obtain ⟨t103, A20, H⟩ := H
 replace H : (if t103 = true then ((strconv_Itoa_22.f a0_3).bind fun t104 => (if a0_0 = 1 then (if 5 + a0_1.size ≤ 9223372036854775807 then (if ((⟨#[109, 97, 107, 101, 32]⟩ : ByteArray) ++ a0_1).size + 1 ≤ 9223372036854775807 then (if (((⟨#[109, 97, 107, 101, 32]⟩ : ByteArray) ++ a0_1) ++ (⟨#[32]⟩ : ByteArray)).size + t104.size ≤ 9223372036854775807 then (some ((((⟨#[109, 97, 107, 101, 32]⟩ : ByteArray) ++ a0_1) ++ (⟨#[32]⟩ : ByteArray)) ++ t104)) else (none)) else (none)) else (none)) else (if a0_0 = 3 then (if 6 + a0_1.size ≤ 9223372036854775807 then (if ((⟨#[99, 108, 111, 110, 101, 32]⟩ : ByteArray) ++ a0_1).size + 1 ≤ 9223372036854775807 then (if (((⟨#[99, 108, 111, 110, 101, 32]⟩ : ByteArray) ++ a0_1) ++ (⟨#[32]⟩ : ByteArray)).size + a0_2.size ≤ 9223372036854775807 then (some ((((⟨#[99, 108, 111, 110, 101, 32]⟩ : ByteArray) ++ a0_1) ++ (⟨#[32]⟩ : ByteArray)) ++ a0_2)) else (none)) else (none)) else (none)) else (if a0_0 = 4 then (if 5 + a0_1.size ≤ 9223372036854775807 then (some ((⟨#[103, 111, 110, 101, 32]⟩ : ByteArray) ++ a0_1)) else (none)) else (if a0_4.toList = ([] : List UInt8) then (if 5 + a0_1.size ≤ 9223372036854775807 then (if ((⟨#[102, 114, 101, 101, 32]⟩ : ByteArray) ++ a0_1).size + 1 ≤ 9223372036854775807 then (if (((⟨#[102, 114, 101, 101, 32]⟩ : ByteArray) ++ a0_1) ++ (⟨#[32]⟩ : ByteArray)).size + t104.size ≤ 9223372036854775807 then (some ((((⟨#[102, 114, 101, 101, 32]⟩ : ByteArray) ++ a0_1) ++ (⟨#[32]⟩ : ByteArray)) ++ t104)) else (none)) else (none)) else (none)) else (if 6 + a0_1.size ≤ 9223372036854775807 then (if ((⟨#[119, 114, 105, 116, 101, 32]⟩ : ByteArray) ++ a0_1).size + 1 ≤ 9223372036854775807 then (if (((⟨#[119, 114, 105, 116, 101, 32]⟩ : ByteArray) ++ a0_1) ++ (⟨#[32]⟩ : ByteArray)).size + t104.size ≤ 9223372036854775807 then (if ((((⟨#[119, 114, 105, 116, 101, 32]⟩ : ByteArray) ++ a0_1) ++ (⟨#[32]⟩ : ByteArray)) ++ t104).size + 1 ≤ 9223372036854775807 then (if (((((⟨#[119, 114, 105, 116, 101, 32]⟩ : ByteArray) ++ a0_1) ++ (⟨#[32]⟩ : ByteArray)) ++ t104) ++ (⟨#[32]⟩ : ByteArray)).size + a0_4.size ≤ 9223372036854775807 then (some ((((((⟨#[119, 114, 105, 116, 101, 32]⟩ : ByteArray) ++ a0_1) ++ (⟨#[32]⟩ : ByteArray)) ++ t104) ++ (⟨#[32]⟩ : ByteArray)) ++ a0_4)) else (none)) else (none)) else (none)) else (none)) else (none))))))) else (some (⟨#[]⟩ : ByteArray))) = some r := H
 have A2 := am A20
 clear A20
 by_cases c3 : t103 = true
 rotate_left
 · replace c3 := Bool.eq_false_iff.mpr c3
   subst c3
   have H1 : (some (⟨#[]⟩ : ByteArray)) = some r := by rw [if_neg (show ¬ (false = true) by decide)] at H; exact H
   clear H
   have H := H1
   clear H1
   obtain rfl := Option.some.inj H
   go_enter Tryd.func10, Tryd.ntmps10
   go_wp2_with (first | ((with_reducible refine gate_dst (N := 1) rfl ?_); refine bx 24 #[.int .i64 a0_0, .string a0_1, .string a0_2, .int .i64 a0_3, .string a0_4] ?_; intro gb102 hg w44 hbox hb; have BK102 := am (hbox); have GW102 := am (zn hg (zb HB)); have GE102 := am (zn hg (zb HB)); replace HB := am (below_step (zb HB) hb); clear hb hbox hg; have hcz45_0 := ce0 BK102; have hcz45_1 := ce1 BK102; have hcz45_2 := ce2 BK102; have hcz45_3 := ce3 BK102; have hcz45_4 := ce4 BK102; have hfz45_0 := bfz BK102 0; have hfz45_1 := bfz BK102 1; have hfz45_2 := bfz BK102 2; have hfz45_3 := bfz BK102 3; have hfz45_4 := bfz BK102 4) | ((with_reducible refine gate_callee (f := 16) rfl ?_); refine goesL_ (some 5) rfl rfl Tryd.func16 (by kernel_rfl) rfl #[.agg #[.int .i64 a0_0, .string a0_1, .string a0_2, .int .i64 a0_3, .string a0_4]] rfl (by (try simp only [List.map_toArray, List.map_cons, List.map_nil]); first | done | rfl | (simp only [List.length_drop, List.length_take]; rfl)) ?_; (with_reducible refine (impl_OpOk.calls k a0_0 a0_1 a0_2 a0_3 a0_4 false _ A2.out).mono ?_); rintro e w46 ⟨rfl, hb⟩; refine ⟨_, rfl, ?_⟩; replace BK102 := am (blk_below (zk BK102) hb); replace HB := am (below_step (zb HB) hb); (try clear hb); (try clear hb2); (try clear hk); (try clear hi)))
   go_ret
   exact ⟨zv, (zb HB)⟩
 subst c3
 have H1 : ((strconv_Itoa_22.f a0_3).bind fun t104 => (if a0_0 = 1 then (if 5 + a0_1.size ≤ 9223372036854775807 then (if ((⟨#[109, 97, 107, 101, 32]⟩ : ByteArray) ++ a0_1).size + 1 ≤ 9223372036854775807 then (if (((⟨#[109, 97, 107, 101, 32]⟩ : ByteArray) ++ a0_1) ++ (⟨#[32]⟩ : ByteArray)).size + t104.size ≤ 9223372036854775807 then (some ((((⟨#[109, 97, 107, 101, 32]⟩ : ByteArray) ++ a0_1) ++ (⟨#[32]⟩ : ByteArray)) ++ t104)) else (none)) else (none)) else (none)) else (if a0_0 = 3 then (if 6 + a0_1.size ≤ 9223372036854775807 then (if ((⟨#[99, 108, 111, 110, 101, 32]⟩ : ByteArray) ++ a0_1).size + 1 ≤ 9223372036854775807 then (if (((⟨#[99, 108, 111, 110, 101, 32]⟩ : ByteArray) ++ a0_1) ++ (⟨#[32]⟩ : ByteArray)).size + a0_2.size ≤ 9223372036854775807 then (some ((((⟨#[99, 108, 111, 110, 101, 32]⟩ : ByteArray) ++ a0_1) ++ (⟨#[32]⟩ : ByteArray)) ++ a0_2)) else (none)) else (none)) else (none)) else (if a0_0 = 4 then (if 5 + a0_1.size ≤ 9223372036854775807 then (some ((⟨#[103, 111, 110, 101, 32]⟩ : ByteArray) ++ a0_1)) else (none)) else (if a0_4.toList = ([] : List UInt8) then (if 5 + a0_1.size ≤ 9223372036854775807 then (if ((⟨#[102, 114, 101, 101, 32]⟩ : ByteArray) ++ a0_1).size + 1 ≤ 9223372036854775807 then (if (((⟨#[102, 114, 101, 101, 32]⟩ : ByteArray) ++ a0_1) ++ (⟨#[32]⟩ : ByteArray)).size + t104.size ≤ 9223372036854775807 then (some ((((⟨#[102, 114, 101, 101, 32]⟩ : ByteArray) ++ a0_1) ++ (⟨#[32]⟩ : ByteArray)) ++ t104)) else (none)) else (none)) else (none)) else (if 6 + a0_1.size ≤ 9223372036854775807 then (if ((⟨#[119, 114, 105, 116, 101, 32]⟩ : ByteArray) ++ a0_1).size + 1 ≤ 9223372036854775807 then (if (((⟨#[119, 114, 105, 116, 101, 32]⟩ : ByteArray) ++ a0_1) ++ (⟨#[32]⟩ : ByteArray)).size + t104.size ≤ 9223372036854775807 then (if ((((⟨#[119, 114, 105, 116, 101, 32]⟩ : ByteArray) ++ a0_1) ++ (⟨#[32]⟩ : ByteArray)) ++ t104).size + 1 ≤ 9223372036854775807 then (if (((((⟨#[119, 114, 105, 116, 101, 32]⟩ : ByteArray) ++ a0_1) ++ (⟨#[32]⟩ : ByteArray)) ++ t104) ++ (⟨#[32]⟩ : ByteArray)).size + a0_4.size ≤ 9223372036854775807 then (some ((((((⟨#[119, 114, 105, 116, 101, 32]⟩ : ByteArray) ++ a0_1) ++ (⟨#[32]⟩ : ByteArray)) ++ t104) ++ (⟨#[32]⟩ : ByteArray)) ++ a0_4)) else (none)) else (none)) else (none)) else (none)) else (none))))))) = some r := by rw [if_pos rfl] at H; exact H
 clear H
 have H := H1
 clear H1
 replace H := obs H
 obtain ⟨t104, A40, H⟩ := H
 replace H : (if a0_0 = 1 then (if 5 + a0_1.size ≤ 9223372036854775807 then (if ((⟨#[109, 97, 107, 101, 32]⟩ : ByteArray) ++ a0_1).size + 1 ≤ 9223372036854775807 then (if (((⟨#[109, 97, 107, 101, 32]⟩ : ByteArray) ++ a0_1) ++ (⟨#[32]⟩ : ByteArray)).size + t104.size ≤ 9223372036854775807 then (some ((((⟨#[109, 97, 107, 101, 32]⟩ : ByteArray) ++ a0_1) ++ (⟨#[32]⟩ : ByteArray)) ++ t104)) else (none)) else (none)) else (none)) else (if a0_0 = 3 then (if 6 + a0_1.size ≤ 9223372036854775807 then (if ((⟨#[99, 108, 111, 110, 101, 32]⟩ : ByteArray) ++ a0_1).size + 1 ≤ 9223372036854775807 then (if (((⟨#[99, 108, 111, 110, 101, 32]⟩ : ByteArray) ++ a0_1) ++ (⟨#[32]⟩ : ByteArray)).size + a0_2.size ≤ 9223372036854775807 then (some ((((⟨#[99, 108, 111, 110, 101, 32]⟩ : ByteArray) ++ a0_1) ++ (⟨#[32]⟩ : ByteArray)) ++ a0_2)) else (none)) else (none)) else (none)) else (if a0_0 = 4 then (if 5 + a0_1.size ≤ 9223372036854775807 then (some ((⟨#[103, 111, 110, 101, 32]⟩ : ByteArray) ++ a0_1)) else (none)) else (if a0_4.toList = ([] : List UInt8) then (if 5 + a0_1.size ≤ 9223372036854775807 then (if ((⟨#[102, 114, 101, 101, 32]⟩ : ByteArray) ++ a0_1).size + 1 ≤ 9223372036854775807 then (if (((⟨#[102, 114, 101, 101, 32]⟩ : ByteArray) ++ a0_1) ++ (⟨#[32]⟩ : ByteArray)).size + t104.size ≤ 9223372036854775807 then (some ((((⟨#[102, 114, 101, 101, 32]⟩ : ByteArray) ++ a0_1) ++ (⟨#[32]⟩ : ByteArray)) ++ t104)) else (none)) else (none)) else (none)) else (if 6 + a0_1.size ≤ 9223372036854775807 then (if ((⟨#[119, 114, 105, 116, 101, 32]⟩ : ByteArray) ++ a0_1).size + 1 ≤ 9223372036854775807 then (if (((⟨#[119, 114, 105, 116, 101, 32]⟩ : ByteArray) ++ a0_1) ++ (⟨#[32]⟩ : ByteArray)).size + t104.size ≤ 9223372036854775807 then (if ((((⟨#[119, 114, 105, 116, 101, 32]⟩ : ByteArray) ++ a0_1) ++ (⟨#[32]⟩ : ByteArray)) ++ t104).size + 1 ≤ 9223372036854775807 then (if (((((⟨#[119, 114, 105, 116, 101, 32]⟩ : ByteArray) ++ a0_1) ++ (⟨#[32]⟩ : ByteArray)) ++ t104) ++ (⟨#[32]⟩ : ByteArray)).size + a0_4.size ≤ 9223372036854775807 then (some ((((((⟨#[119, 114, 105, 116, 101, 32]⟩ : ByteArray) ++ a0_1) ++ (⟨#[32]⟩ : ByteArray)) ++ t104) ++ (⟨#[32]⟩ : ByteArray)) ++ a0_4)) else (none)) else (none)) else (none)) else (none)) else (none)))))) = some r := H
 have A4 := am A40
 clear A40
 by_cases c5 : a0_0 = 1
 · rw [if_pos c5] at H
   have c5b0 : (a0_0 == 1) = true := beq_iff_eq.mpr c5
   have c5b1 : (a0_0 != 1) = false := bne_eq_false_iff_eq.mpr c5
   clear c5
   by_cases c6 : 5 + a0_1.size ≤ 9223372036854775807
   rotate_left
   · rw [if_neg c6] at H
     exact absurd H (by simp)
   rw [if_pos c6] at H
   have c6b0 := eq_true c6
   have c6b1 : decide (5 + a0_1.size ≤ 9223372036854775807) = true := decide_eq_true c6
   try have c6b2 : (9223372036854775807 < 5 + a0_1.size) = False := eq_false (Nat.not_lt.2 c6)
   by_cases c7 : ((⟨#[109, 97, 107, 101, 32]⟩ : ByteArray) ++ a0_1).size + 1 ≤ 9223372036854775807
   rotate_left
   · rw [if_neg c7] at H
     exact absurd H (by simp)
   rw [if_pos c7] at H
   have c7b0 := eq_true c7
   have c7b1 : decide (((⟨#[109, 97, 107, 101, 32]⟩ : ByteArray) ++ a0_1).size + 1 ≤ 9223372036854775807) = true := decide_eq_true c7
   try have c7b2 : (9223372036854775807 < ((⟨#[109, 97, 107, 101, 32]⟩ : ByteArray) ++ a0_1).size + 1) = False := eq_false (Nat.not_lt.2 c7)
   (try have c7b3 : (9223372036854775807 < 5 + a0_1.size + 1) = False := eq_false (by have q_ := c7; simp only [ByteArray.size_append] at q_; have : (⟨#[109, 97, 107, 101, 32]⟩ : ByteArray).size = 5 := rfl; omega))
   by_cases c8 : (((⟨#[109, 97, 107, 101, 32]⟩ : ByteArray) ++ a0_1) ++ (⟨#[32]⟩ : ByteArray)).size + t104.size ≤ 9223372036854775807
   rotate_left
   · rw [if_neg c8] at H
     exact absurd H (by simp)
   rw [if_pos c8] at H
   have c8b0 := eq_true c8
   have c8b1 : decide ((((⟨#[109, 97, 107, 101, 32]⟩ : ByteArray) ++ a0_1) ++ (⟨#[32]⟩ : ByteArray)).size + t104.size ≤ 9223372036854775807) = true := decide_eq_true c8
   try have c8b2 : (9223372036854775807 < (((⟨#[109, 97, 107, 101, 32]⟩ : ByteArray) ++ a0_1) ++ (⟨#[32]⟩ : ByteArray)).size + t104.size) = False := eq_false (Nat.not_lt.2 c8)
   (try have c8b3 : (9223372036854775807 < 5 + a0_1.size + 1 + t104.size) = False := eq_false (by have q_ := c8; simp only [ByteArray.size_append] at q_; have : (⟨#[109, 97, 107, 101, 32]⟩ : ByteArray).size = 5 := rfl; have : (⟨#[32]⟩ : ByteArray).size = 1 := rfl; omega))
   obtain rfl := Option.some.inj H
   go_enter Tryd.func10, Tryd.ntmps10
   go_wp2_with (first | ((with_reducible refine gate_dst (N := 1) rfl ?_); refine bx 24 #[.int .i64 a0_0, .string a0_1, .string a0_2, .int .i64 a0_3, .string a0_4] ?_; intro gb102 hg w9 hbox hb; have BK102 := am (hbox); have GW102 := am (zn hg (zb HB)); have GE102 := am (zn hg (zb HB)); replace HB := am (below_step (zb HB) hb); clear hb hbox hg; have hcz10_0 := ce0 BK102; have hcz10_1 := ce1 BK102; have hcz10_2 := ce2 BK102; have hcz10_3 := ce3 BK102; have hcz10_4 := ce4 BK102; have hfz10_0 := bfz BK102 0; have hfz10_1 := bfz BK102 1; have hfz10_2 := bfz BK102 2; have hfz10_3 := bfz BK102 3; have hfz10_4 := bfz BK102 4) | ((with_reducible refine gate_callee (f := 16) rfl ?_); refine goesL_ (some 5) rfl rfl Tryd.func16 (by kernel_rfl) rfl #[.agg #[.int .i64 a0_0, .string a0_1, .string a0_2, .int .i64 a0_3, .string a0_4]] rfl (by (try simp only [List.map_toArray, List.map_cons, List.map_nil]); first | done | rfl | (simp only [List.length_drop, List.length_take]; rfl)) ?_; (with_reducible refine (impl_OpOk.calls k a0_0 a0_1 a0_2 a0_3 a0_4 true _ A2.out).mono ?_); rintro e w11 ⟨rfl, hb⟩; refine ⟨_, rfl, ?_⟩; replace BK102 := am (blk_below (zk BK102) hb); replace HB := am (below_step (zb HB) hb); (try clear hb); (try clear hb2); (try clear hk); (try clear hi); have hcz12_0 := ce0 BK102; have hcz12_1 := ce1 BK102; have hcz12_2 := ce2 BK102; have hcz12_3 := ce3 BK102; have hcz12_4 := ce4 BK102; have hfz12_0 := bfz BK102 0; have hfz12_1 := bfz BK102 1; have hfz12_2 := bfz BK102 2; have hfz12_3 := bfz BK102 3; have hfz12_4 := bfz BK102 4) | ((with_reducible refine gate_callee (f := 22) rfl ?_); refine goesL_ (some 9) rfl rfl Tryd.func22 (by kernel_rfl) rfl #[.int .i64 a0_3] rfl (by (try simp only [List.map_toArray, List.map_cons, List.map_nil]); first | done | rfl | (simp only [List.length_drop, List.length_take]; rfl)) ?_; (with_reducible refine (strconv_Itoa_22.calls a0_3 t104 _ A4.out).mono ?_); rintro e w' ⟨rfl, ⟨nd, rfl⟩⟩; refine ⟨_, rfl, ?_⟩))
   go_ret
   exact ⟨zv, (zb HB)⟩
 rw [if_neg c5] at H
 have c5b0 : (a0_0 == 1) = false := beq_eq_false_iff_ne.mpr c5
 have c5b1 : (a0_0 != 1) = true := bne_iff_ne.mpr c5
 by_cases c13 : a0_0 = 3
 · rw [if_pos c13] at H
   have c13b0 : (a0_0 == 3) = true := beq_iff_eq.mpr c13
   have c13b1 : (a0_0 != 3) = false := bne_eq_false_iff_eq.mpr c13
   clear c13
   by_cases c14 : 6 + a0_1.size ≤ 9223372036854775807
   rotate_left
   · rw [if_neg c14] at H
     exact absurd H (by simp)
   rw [if_pos c14] at H
   have c14b0 := eq_true c14
   have c14b1 : decide (6 + a0_1.size ≤ 9223372036854775807) = true := decide_eq_true c14
   try have c14b2 : (9223372036854775807 < 6 + a0_1.size) = False := eq_false (Nat.not_lt.2 c14)
   by_cases c15 : ((⟨#[99, 108, 111, 110, 101, 32]⟩ : ByteArray) ++ a0_1).size + 1 ≤ 9223372036854775807
   rotate_left
   · rw [if_neg c15] at H
     exact absurd H (by simp)
   rw [if_pos c15] at H
   have c15b0 := eq_true c15
   have c15b1 : decide (((⟨#[99, 108, 111, 110, 101, 32]⟩ : ByteArray) ++ a0_1).size + 1 ≤ 9223372036854775807) = true := decide_eq_true c15
   try have c15b2 : (9223372036854775807 < ((⟨#[99, 108, 111, 110, 101, 32]⟩ : ByteArray) ++ a0_1).size + 1) = False := eq_false (Nat.not_lt.2 c15)
   (try have c15b3 : (9223372036854775807 < 6 + a0_1.size + 1) = False := eq_false (by have q_ := c15; simp only [ByteArray.size_append] at q_; have : (⟨#[99, 108, 111, 110, 101, 32]⟩ : ByteArray).size = 6 := rfl; omega))
   by_cases c16 : (((⟨#[99, 108, 111, 110, 101, 32]⟩ : ByteArray) ++ a0_1) ++ (⟨#[32]⟩ : ByteArray)).size + a0_2.size ≤ 9223372036854775807
   rotate_left
   · rw [if_neg c16] at H
     exact absurd H (by simp)
   rw [if_pos c16] at H
   have c16b0 := eq_true c16
   have c16b1 : decide ((((⟨#[99, 108, 111, 110, 101, 32]⟩ : ByteArray) ++ a0_1) ++ (⟨#[32]⟩ : ByteArray)).size + a0_2.size ≤ 9223372036854775807) = true := decide_eq_true c16
   try have c16b2 : (9223372036854775807 < (((⟨#[99, 108, 111, 110, 101, 32]⟩ : ByteArray) ++ a0_1) ++ (⟨#[32]⟩ : ByteArray)).size + a0_2.size) = False := eq_false (Nat.not_lt.2 c16)
   (try have c16b3 : (9223372036854775807 < 6 + a0_1.size + 1 + a0_2.size) = False := eq_false (by have q_ := c16; simp only [ByteArray.size_append] at q_; have : (⟨#[32]⟩ : ByteArray).size = 1 := rfl; have : (⟨#[99, 108, 111, 110, 101, 32]⟩ : ByteArray).size = 6 := rfl; omega))
   obtain rfl := Option.some.inj H
   go_enter Tryd.func10, Tryd.ntmps10
   go_wp2_with (first | ((with_reducible refine gate_dst (N := 1) rfl ?_); refine bx 24 #[.int .i64 a0_0, .string a0_1, .string a0_2, .int .i64 a0_3, .string a0_4] ?_; intro gb102 hg w17 hbox hb; have BK102 := am (hbox); have GW102 := am (zn hg (zb HB)); have GE102 := am (zn hg (zb HB)); replace HB := am (below_step (zb HB) hb); clear hb hbox hg; have hcz18_0 := ce0 BK102; have hcz18_1 := ce1 BK102; have hcz18_2 := ce2 BK102; have hcz18_3 := ce3 BK102; have hcz18_4 := ce4 BK102; have hfz18_0 := bfz BK102 0; have hfz18_1 := bfz BK102 1; have hfz18_2 := bfz BK102 2; have hfz18_3 := bfz BK102 3; have hfz18_4 := bfz BK102 4) | ((with_reducible refine gate_callee (f := 16) rfl ?_); refine goesL_ (some 5) rfl rfl Tryd.func16 (by kernel_rfl) rfl #[.agg #[.int .i64 a0_0, .string a0_1, .string a0_2, .int .i64 a0_3, .string a0_4]] rfl (by (try simp only [List.map_toArray, List.map_cons, List.map_nil]); first | done | rfl | (simp only [List.length_drop, List.length_take]; rfl)) ?_; (with_reducible refine (impl_OpOk.calls k a0_0 a0_1 a0_2 a0_3 a0_4 true _ A2.out).mono ?_); rintro e w19 ⟨rfl, hb⟩; refine ⟨_, rfl, ?_⟩; replace BK102 := am (blk_below (zk BK102) hb); replace HB := am (below_step (zb HB) hb); (try clear hb); (try clear hb2); (try clear hk); (try clear hi); have hcz20_0 := ce0 BK102; have hcz20_1 := ce1 BK102; have hcz20_2 := ce2 BK102; have hcz20_3 := ce3 BK102; have hcz20_4 := ce4 BK102; have hfz20_0 := bfz BK102 0; have hfz20_1 := bfz BK102 1; have hfz20_2 := bfz BK102 2; have hfz20_3 := bfz BK102 3; have hfz20_4 := bfz BK102 4) | ((with_reducible refine gate_callee (f := 22) rfl ?_); refine goesL_ (some 9) rfl rfl Tryd.func22 (by kernel_rfl) rfl #[.int .i64 a0_3] rfl (by (try simp only [List.map_toArray, List.map_cons, List.map_nil]); first | done | rfl | (simp only [List.length_drop, List.length_take]; rfl)) ?_; (with_reducible refine (strconv_Itoa_22.calls a0_3 t104 _ A4.out).mono ?_); rintro e w' ⟨rfl, ⟨nd, rfl⟩⟩; refine ⟨_, rfl, ?_⟩))
   go_ret
   exact ⟨zv, (zb HB)⟩
 rw [if_neg c13] at H
 have c13b0 : (a0_0 == 3) = false := beq_eq_false_iff_ne.mpr c13
 have c13b1 : (a0_0 != 3) = true := bne_iff_ne.mpr c13
 by_cases c21 : a0_0 = 4
 · rw [if_pos c21] at H
   have c21b0 : (a0_0 == 4) = true := beq_iff_eq.mpr c21
   have c21b1 : (a0_0 != 4) = false := bne_eq_false_iff_eq.mpr c21
   clear c21
   by_cases c22 : 5 + a0_1.size ≤ 9223372036854775807
   rotate_left
   · rw [if_neg c22] at H
     exact absurd H (by simp)
   rw [if_pos c22] at H
   have c22b0 := eq_true c22
   have c22b1 : decide (5 + a0_1.size ≤ 9223372036854775807) = true := decide_eq_true c22
   try have c22b2 : (9223372036854775807 < 5 + a0_1.size) = False := eq_false (Nat.not_lt.2 c22)
   obtain rfl := Option.some.inj H
   go_enter Tryd.func10, Tryd.ntmps10
   go_wp2_with (first | ((with_reducible refine gate_dst (N := 1) rfl ?_); refine bx 24 #[.int .i64 a0_0, .string a0_1, .string a0_2, .int .i64 a0_3, .string a0_4] ?_; intro gb102 hg w23 hbox hb; have BK102 := am (hbox); have GW102 := am (zn hg (zb HB)); have GE102 := am (zn hg (zb HB)); replace HB := am (below_step (zb HB) hb); clear hb hbox hg; have hcz24_0 := ce0 BK102; have hcz24_1 := ce1 BK102; have hcz24_2 := ce2 BK102; have hcz24_3 := ce3 BK102; have hcz24_4 := ce4 BK102; have hfz24_0 := bfz BK102 0; have hfz24_1 := bfz BK102 1; have hfz24_2 := bfz BK102 2; have hfz24_3 := bfz BK102 3; have hfz24_4 := bfz BK102 4) | ((with_reducible refine gate_callee (f := 16) rfl ?_); refine goesL_ (some 5) rfl rfl Tryd.func16 (by kernel_rfl) rfl #[.agg #[.int .i64 a0_0, .string a0_1, .string a0_2, .int .i64 a0_3, .string a0_4]] rfl (by (try simp only [List.map_toArray, List.map_cons, List.map_nil]); first | done | rfl | (simp only [List.length_drop, List.length_take]; rfl)) ?_; (with_reducible refine (impl_OpOk.calls k a0_0 a0_1 a0_2 a0_3 a0_4 true _ A2.out).mono ?_); rintro e w25 ⟨rfl, hb⟩; refine ⟨_, rfl, ?_⟩; replace BK102 := am (blk_below (zk BK102) hb); replace HB := am (below_step (zb HB) hb); (try clear hb); (try clear hb2); (try clear hk); (try clear hi); have hcz26_0 := ce0 BK102; have hcz26_1 := ce1 BK102; have hcz26_2 := ce2 BK102; have hcz26_3 := ce3 BK102; have hcz26_4 := ce4 BK102; have hfz26_0 := bfz BK102 0; have hfz26_1 := bfz BK102 1; have hfz26_2 := bfz BK102 2; have hfz26_3 := bfz BK102 3; have hfz26_4 := bfz BK102 4) | ((with_reducible refine gate_callee (f := 22) rfl ?_); refine goesL_ (some 9) rfl rfl Tryd.func22 (by kernel_rfl) rfl #[.int .i64 a0_3] rfl (by (try simp only [List.map_toArray, List.map_cons, List.map_nil]); first | done | rfl | (simp only [List.length_drop, List.length_take]; rfl)) ?_; (with_reducible refine (strconv_Itoa_22.calls a0_3 t104 _ A4.out).mono ?_); rintro e w' ⟨rfl, ⟨nd, rfl⟩⟩; refine ⟨_, rfl, ?_⟩))
   go_ret
   exact ⟨zv, (zb HB)⟩
 rw [if_neg c21] at H
 have c21b0 : (a0_0 == 4) = false := beq_eq_false_iff_ne.mpr c21
 have c21b1 : (a0_0 != 4) = true := bne_iff_ne.mpr c21
 by_cases c27 : a0_4.toList = ([] : List UInt8)
 · rw [if_pos c27] at H
   have c27b0 : (a0_4.toList == ([] : List UInt8)) = true := beq_iff_eq.mpr c27
   have c27b1 : (a0_4.toList != ([] : List UInt8)) = false := bne_eq_false_iff_eq.mpr c27
   clear c27
   by_cases c28 : 5 + a0_1.size ≤ 9223372036854775807
   rotate_left
   · rw [if_neg c28] at H
     exact absurd H (by simp)
   rw [if_pos c28] at H
   have c28b0 := eq_true c28
   have c28b1 : decide (5 + a0_1.size ≤ 9223372036854775807) = true := decide_eq_true c28
   try have c28b2 : (9223372036854775807 < 5 + a0_1.size) = False := eq_false (Nat.not_lt.2 c28)
   by_cases c29 : ((⟨#[102, 114, 101, 101, 32]⟩ : ByteArray) ++ a0_1).size + 1 ≤ 9223372036854775807
   rotate_left
   · rw [if_neg c29] at H
     exact absurd H (by simp)
   rw [if_pos c29] at H
   have c29b0 := eq_true c29
   have c29b1 : decide (((⟨#[102, 114, 101, 101, 32]⟩ : ByteArray) ++ a0_1).size + 1 ≤ 9223372036854775807) = true := decide_eq_true c29
   try have c29b2 : (9223372036854775807 < ((⟨#[102, 114, 101, 101, 32]⟩ : ByteArray) ++ a0_1).size + 1) = False := eq_false (Nat.not_lt.2 c29)
   (try have c29b3 : (9223372036854775807 < 5 + a0_1.size + 1) = False := eq_false (by have q_ := c29; simp only [ByteArray.size_append] at q_; have : (⟨#[102, 114, 101, 101, 32]⟩ : ByteArray).size = 5 := rfl; omega))
   by_cases c30 : (((⟨#[102, 114, 101, 101, 32]⟩ : ByteArray) ++ a0_1) ++ (⟨#[32]⟩ : ByteArray)).size + t104.size ≤ 9223372036854775807
   rotate_left
   · rw [if_neg c30] at H
     exact absurd H (by simp)
   rw [if_pos c30] at H
   have c30b0 := eq_true c30
   have c30b1 : decide ((((⟨#[102, 114, 101, 101, 32]⟩ : ByteArray) ++ a0_1) ++ (⟨#[32]⟩ : ByteArray)).size + t104.size ≤ 9223372036854775807) = true := decide_eq_true c30
   try have c30b2 : (9223372036854775807 < (((⟨#[102, 114, 101, 101, 32]⟩ : ByteArray) ++ a0_1) ++ (⟨#[32]⟩ : ByteArray)).size + t104.size) = False := eq_false (Nat.not_lt.2 c30)
   (try have c30b3 : (9223372036854775807 < 5 + a0_1.size + 1 + t104.size) = False := eq_false (by have q_ := c30; simp only [ByteArray.size_append] at q_; have : (⟨#[102, 114, 101, 101, 32]⟩ : ByteArray).size = 5 := rfl; have : (⟨#[32]⟩ : ByteArray).size = 1 := rfl; omega))
   obtain rfl := Option.some.inj H
   go_enter Tryd.func10, Tryd.ntmps10
   go_wp2_with (first | ((with_reducible refine gate_dst (N := 1) rfl ?_); refine bx 24 #[.int .i64 a0_0, .string a0_1, .string a0_2, .int .i64 a0_3, .string a0_4] ?_; intro gb102 hg w31 hbox hb; have BK102 := am (hbox); have GW102 := am (zn hg (zb HB)); have GE102 := am (zn hg (zb HB)); replace HB := am (below_step (zb HB) hb); clear hb hbox hg; have hcz32_0 := ce0 BK102; have hcz32_1 := ce1 BK102; have hcz32_2 := ce2 BK102; have hcz32_3 := ce3 BK102; have hcz32_4 := ce4 BK102; have hfz32_0 := bfz BK102 0; have hfz32_1 := bfz BK102 1; have hfz32_2 := bfz BK102 2; have hfz32_3 := bfz BK102 3; have hfz32_4 := bfz BK102 4) | ((with_reducible refine gate_callee (f := 16) rfl ?_); refine goesL_ (some 5) rfl rfl Tryd.func16 (by kernel_rfl) rfl #[.agg #[.int .i64 a0_0, .string a0_1, .string a0_2, .int .i64 a0_3, .string a0_4]] rfl (by (try simp only [List.map_toArray, List.map_cons, List.map_nil]); first | done | rfl | (simp only [List.length_drop, List.length_take]; rfl)) ?_; (with_reducible refine (impl_OpOk.calls k a0_0 a0_1 a0_2 a0_3 a0_4 true _ A2.out).mono ?_); rintro e w33 ⟨rfl, hb⟩; refine ⟨_, rfl, ?_⟩; replace BK102 := am (blk_below (zk BK102) hb); replace HB := am (below_step (zb HB) hb); (try clear hb); (try clear hb2); (try clear hk); (try clear hi); have hcz34_0 := ce0 BK102; have hcz34_1 := ce1 BK102; have hcz34_2 := ce2 BK102; have hcz34_3 := ce3 BK102; have hcz34_4 := ce4 BK102; have hfz34_0 := bfz BK102 0; have hfz34_1 := bfz BK102 1; have hfz34_2 := bfz BK102 2; have hfz34_3 := bfz BK102 3; have hfz34_4 := bfz BK102 4) | ((with_reducible refine gate_callee (f := 22) rfl ?_); refine goesL_ (some 9) rfl rfl Tryd.func22 (by kernel_rfl) rfl #[.int .i64 a0_3] rfl (by (try simp only [List.map_toArray, List.map_cons, List.map_nil]); first | done | rfl | (simp only [List.length_drop, List.length_take]; rfl)) ?_; (with_reducible refine (strconv_Itoa_22.calls a0_3 t104 _ A4.out).mono ?_); rintro e w' ⟨rfl, ⟨nd, rfl⟩⟩; refine ⟨_, rfl, ?_⟩))
   go_ret
   exact ⟨zv, (zb HB)⟩
 rw [if_neg c27] at H
 have c27b0 : (a0_4.toList == ([] : List UInt8)) = false := beq_eq_false_iff_ne.mpr c27
 have c27b1 : (a0_4.toList != ([] : List UInt8)) = true := bne_iff_ne.mpr c27
 by_cases c35 : 6 + a0_1.size ≤ 9223372036854775807
 rotate_left
 · rw [if_neg c35] at H
   exact absurd H (by simp)
 rw [if_pos c35] at H
 have c35b0 := eq_true c35
 have c35b1 : decide (6 + a0_1.size ≤ 9223372036854775807) = true := decide_eq_true c35
 try have c35b2 : (9223372036854775807 < 6 + a0_1.size) = False := eq_false (Nat.not_lt.2 c35)
 by_cases c36 : ((⟨#[119, 114, 105, 116, 101, 32]⟩ : ByteArray) ++ a0_1).size + 1 ≤ 9223372036854775807
 rotate_left
 · rw [if_neg c36] at H
   exact absurd H (by simp)
 rw [if_pos c36] at H
 have c36b0 := eq_true c36
 have c36b1 : decide (((⟨#[119, 114, 105, 116, 101, 32]⟩ : ByteArray) ++ a0_1).size + 1 ≤ 9223372036854775807) = true := decide_eq_true c36
 try have c36b2 : (9223372036854775807 < ((⟨#[119, 114, 105, 116, 101, 32]⟩ : ByteArray) ++ a0_1).size + 1) = False := eq_false (Nat.not_lt.2 c36)
 (try have c36b3 : (9223372036854775807 < 6 + a0_1.size + 1) = False := eq_false (by have q_ := c36; simp only [ByteArray.size_append] at q_; have : (⟨#[119, 114, 105, 116, 101, 32]⟩ : ByteArray).size = 6 := rfl; omega))
 by_cases c37 : (((⟨#[119, 114, 105, 116, 101, 32]⟩ : ByteArray) ++ a0_1) ++ (⟨#[32]⟩ : ByteArray)).size + t104.size ≤ 9223372036854775807
 rotate_left
 · rw [if_neg c37] at H
   exact absurd H (by simp)
 rw [if_pos c37] at H
 have c37b0 := eq_true c37
 have c37b1 : decide ((((⟨#[119, 114, 105, 116, 101, 32]⟩ : ByteArray) ++ a0_1) ++ (⟨#[32]⟩ : ByteArray)).size + t104.size ≤ 9223372036854775807) = true := decide_eq_true c37
 try have c37b2 : (9223372036854775807 < (((⟨#[119, 114, 105, 116, 101, 32]⟩ : ByteArray) ++ a0_1) ++ (⟨#[32]⟩ : ByteArray)).size + t104.size) = False := eq_false (Nat.not_lt.2 c37)
 (try have c37b3 : (9223372036854775807 < 6 + a0_1.size + 1 + t104.size) = False := eq_false (by have q_ := c37; simp only [ByteArray.size_append] at q_; have : (⟨#[119, 114, 105, 116, 101, 32]⟩ : ByteArray).size = 6 := rfl; have : (⟨#[32]⟩ : ByteArray).size = 1 := rfl; omega))
 by_cases c38 : ((((⟨#[119, 114, 105, 116, 101, 32]⟩ : ByteArray) ++ a0_1) ++ (⟨#[32]⟩ : ByteArray)) ++ t104).size + 1 ≤ 9223372036854775807
 rotate_left
 · rw [if_neg c38] at H
   exact absurd H (by simp)
 rw [if_pos c38] at H
 have c38b0 := eq_true c38
 have c38b1 : decide (((((⟨#[119, 114, 105, 116, 101, 32]⟩ : ByteArray) ++ a0_1) ++ (⟨#[32]⟩ : ByteArray)) ++ t104).size + 1 ≤ 9223372036854775807) = true := decide_eq_true c38
 try have c38b2 : (9223372036854775807 < ((((⟨#[119, 114, 105, 116, 101, 32]⟩ : ByteArray) ++ a0_1) ++ (⟨#[32]⟩ : ByteArray)) ++ t104).size + 1) = False := eq_false (Nat.not_lt.2 c38)
 (try have c38b3 : (9223372036854775807 < 6 + a0_1.size + 1 + t104.size + 1) = False := eq_false (by have q_ := c38; simp only [ByteArray.size_append] at q_; have : (⟨#[119, 114, 105, 116, 101, 32]⟩ : ByteArray).size = 6 := rfl; have : (⟨#[32]⟩ : ByteArray).size = 1 := rfl; omega))
 by_cases c39 : (((((⟨#[119, 114, 105, 116, 101, 32]⟩ : ByteArray) ++ a0_1) ++ (⟨#[32]⟩ : ByteArray)) ++ t104) ++ (⟨#[32]⟩ : ByteArray)).size + a0_4.size ≤ 9223372036854775807
 rotate_left
 · rw [if_neg c39] at H
   exact absurd H (by simp)
 rw [if_pos c39] at H
 have c39b0 := eq_true c39
 have c39b1 : decide ((((((⟨#[119, 114, 105, 116, 101, 32]⟩ : ByteArray) ++ a0_1) ++ (⟨#[32]⟩ : ByteArray)) ++ t104) ++ (⟨#[32]⟩ : ByteArray)).size + a0_4.size ≤ 9223372036854775807) = true := decide_eq_true c39
 try have c39b2 : (9223372036854775807 < (((((⟨#[119, 114, 105, 116, 101, 32]⟩ : ByteArray) ++ a0_1) ++ (⟨#[32]⟩ : ByteArray)) ++ t104) ++ (⟨#[32]⟩ : ByteArray)).size + a0_4.size) = False := eq_false (Nat.not_lt.2 c39)
 (try have c39b3 : (9223372036854775807 < 6 + a0_1.size + 1 + t104.size + 1 + a0_4.size) = False := eq_false (by have q_ := c39; simp only [ByteArray.size_append] at q_; have : (⟨#[119, 114, 105, 116, 101, 32]⟩ : ByteArray).size = 6 := rfl; have : (⟨#[32]⟩ : ByteArray).size = 1 := rfl; omega))
 obtain rfl := Option.some.inj H
 go_enter Tryd.func10, Tryd.ntmps10
 go_wp2_with (first | ((with_reducible refine gate_dst (N := 1) rfl ?_); refine bx 24 #[.int .i64 a0_0, .string a0_1, .string a0_2, .int .i64 a0_3, .string a0_4] ?_; intro gb102 hg w40 hbox hb; have BK102 := am (hbox); have GW102 := am (zn hg (zb HB)); have GE102 := am (zn hg (zb HB)); replace HB := am (below_step (zb HB) hb); clear hb hbox hg; have hcz41_0 := ce0 BK102; have hcz41_1 := ce1 BK102; have hcz41_2 := ce2 BK102; have hcz41_3 := ce3 BK102; have hcz41_4 := ce4 BK102; have hfz41_0 := bfz BK102 0; have hfz41_1 := bfz BK102 1; have hfz41_2 := bfz BK102 2; have hfz41_3 := bfz BK102 3; have hfz41_4 := bfz BK102 4) | ((with_reducible refine gate_callee (f := 16) rfl ?_); refine goesL_ (some 5) rfl rfl Tryd.func16 (by kernel_rfl) rfl #[.agg #[.int .i64 a0_0, .string a0_1, .string a0_2, .int .i64 a0_3, .string a0_4]] rfl (by (try simp only [List.map_toArray, List.map_cons, List.map_nil]); first | done | rfl | (simp only [List.length_drop, List.length_take]; rfl)) ?_; (with_reducible refine (impl_OpOk.calls k a0_0 a0_1 a0_2 a0_3 a0_4 true _ A2.out).mono ?_); rintro e w42 ⟨rfl, hb⟩; refine ⟨_, rfl, ?_⟩; replace BK102 := am (blk_below (zk BK102) hb); replace HB := am (below_step (zb HB) hb); (try clear hb); (try clear hb2); (try clear hk); (try clear hi); have hcz43_0 := ce0 BK102; have hcz43_1 := ce1 BK102; have hcz43_2 := ce2 BK102; have hcz43_3 := ce3 BK102; have hcz43_4 := ce4 BK102; have hfz43_0 := bfz BK102 0; have hfz43_1 := bfz BK102 1; have hfz43_2 := bfz BK102 2; have hfz43_3 := bfz BK102 3; have hfz43_4 := bfz BK102 4) | ((with_reducible refine gate_callee (f := 22) rfl ?_); refine goesL_ (some 9) rfl rfl Tryd.func22 (by kernel_rfl) rfl #[.int .i64 a0_3] rfl (by (try simp only [List.map_toArray, List.map_cons, List.map_nil]); first | done | rfl | (simp only [List.length_drop, List.length_take]; rfl)) ?_; (with_reducible refine (strconv_Itoa_22.calls a0_3 t104 _ A4.out).mono ?_); rintro e w' ⟨rfl, ⟨nd, rfl⟩⟩; refine ⟨_, rfl, ?_⟩))
 go_ret
 exact ⟨zv, (zb HB)⟩
-- NOT PRINTED: function 56 (utf8_RuneCountInString)
-- NOT PRINTED: function 68 (utf8_decodeRuneInStringSlow)
-- NOT PRINTED: function 57 (utf8_DecodeRuneInString)
-- NOT PRINTED: function 44 (strings_explode)
-- NOT PRINTED: function 77 (bytealg_IndexByteString)
-- NOT PRINTED: function 69 (stringslite_IndexByte)
-- NOT PRINTED: function 70 (bytealg_IndexString)
-- NOT PRINTED: function 71 (bytealg_Cutover)
-- NOT PRINTED: function 78 (bytealg_hashStr_string)
-- NOT PRINTED: function 72 (bytealg_IndexRabinKarp_string)
-- NOT PRINTED: function 59 (stringslite_Index)
-- NOT PRINTED: function 46 (strings_Index)
-- NOT PRINTED: function 58 (bytealg_CountString)
-- NOT PRINTED: function 45 (strings_Count)
-- NOT PRINTED: function 40 (strings_genSplit)
/-! ### strings_Split: function 25 -/
/-- What the library's calls read: two variables, each with a value of its own type. -/
def ROK (w : World) : Prop := (∃ m : Int, w.cell? ⟨3, 0, none⟩ = some (.int .i64 m)) ∧ ∃ (te : TypeId) (pe : Value), w.cell? ⟨0, 0, none⟩ = some (.iface te pe)
theorem ROK.below {w W : World} (h : ROK w) (hb : Below w.heap.size w W) : ROK W := by
 obtain ⟨⟨m, hm⟩, te, pe, he⟩ := h
 exact ⟨⟨m, (hb.cell (World.block_lt_of_cell? w _ hm)).trans hm⟩, te, pe, (hb.cell (World.block_lt_of_cell? w _ he)).trans he⟩
/-- The pieces between the separators. -/
def strings_Split.f (a0 : ByteArray) (a1 : ByteArray) : Option (List ByteArray) := if a0.size < 4294967281 ∧ 1 ≤ a1.size then some (Lib.splitB a1 0 (Lib.countB a0 a1) a0) else none
theorem strings_Split.calls (a0 : ByteArray) (a1 : ByteArray) (r : List ByteArray) (w : World) (h : strings_Split.f a0 a1 = some r) (hW : ROK w := by first | exact HW_.out | exact ROK.below HW_.out HB.out | exact ROK.below HW_.out (zb HB)) :
 Calls Tryd.prog 25 #[.string a0, .string a1] w fun e w' => ∃ v0_ : Value, e = .returned (v0_) ∧ Kd.R Kd.string 9 w' w.heap.size (fun _ => True) v0_ r ∧ Below w.heap.size w w' := by
 unfold strings_Split.f at h
 by_cases c : a0.size < 4294967281 ∧ 1 ≤ a1.size
 rotate_left
 · rw [if_neg c] at h
   cases h
 rw [if_pos c] at h
 obtain rfl := Option.some.inj h
 obtain ⟨⟨m, hm⟩, _⟩ := hW
 have hlen := Lib.splitB_all a1 c.2 0 _ a0 rfl
 have hle := Lib.countB_le a1 c.2 _ a0 (Nat.le_refl _)
 refine (Tryd.strings_Split a0 a1 m w c.1 hm c.2).mono fun e w' ⟨he, hw⟩ => ⟨_, he, ?_, ?_⟩
 · subst hw
   rw [← hlen]
   have ho := World.ownsRow_lit (base := w.heap.size) (e := 9) (size := 1) w ((Lib.splitB a1 0 (Lib.countB a0 a1) a0).map Value.string).toArray (Lib.splitB a1 0 (Lib.countB a0 a1) a0).length (Nat.le_refl _) (by rw [hlen]; unfold maxLen; omega) (by simp)
   rw [List.toList_toArray] at ho
   refine ⟨fun _ _ => trivial, _, ho, ?_⟩
   clear ho hlen hle he
   refine ⟨by show _ = _ * 1; simp, fun j p hj => ?_⟩
   obtain ⟨hlt, e1⟩ := List.getElem?_eq_some_iff.1 hj
   show _ = [Value.string p]
   apply List.ext_getElem?
   intro i
   rw [← e1]
   cases i with
   | zero => simp [Kd.string, Kd.scalar, hlt]
   | succ i => simp [Kd.string, Kd.scalar, hlt]; omega
 subst hw
 exact below_alloc (Below.refl _ _) _
-- NOT PRINTED: function 73 (strconv_lower)
-- NOT PRINTED: function 74 (strconv_underscoreOK)
-- NOT PRINTED: function 60 (strconv_ParseUint)
-- NOT PRINTED: function 47 (strconv_ParseInt)
-- NOT PRINTED: function 41 (strconv_Atoi_41)
-- NOT PRINTED: function 61 (stringslite_Clone)
-- NOT PRINTED: function 48 (strconv_syntaxError)
-- NOT PRINTED: function 49 (strconv_rangeError)
-- NOT PRINTED: function 62 (errors_New)
-- NOT PRINTED: function 50 (strconv_baseError)
-- NOT PRINTED: function 51 (strconv_bitSizeError)
-- NOT PRINTED: function 42 (strconv_toError)
/-! ### strconv_Atoi_26: function 26 -/
/-- The number that a text of at most eighteen bytes spells; 0, if it spells none. -/
def strconv_Atoi_26.f (a0 : ByteArray) : Option (Int × Option Int) := if a0.size ≤ 18 then some ((Lib.atoi a0.data.toList).getD 0, none) else none
theorem strconv_Atoi_26.calls (a0 : ByteArray) (r1 : Int) (r2 : Option Int) (w : World) (h : strconv_Atoi_26.f a0 = some (r1, r2)) (hW : ROK w := by first | exact HW_.out | exact ROK.below HW_.out HB.out | exact ROK.below HW_.out (zb HB)) :
 Calls Tryd.prog 26 #[.string a0] w fun e w' => ∃ ev_ : Value, e = .returned (.tuple #[.int .i64 r1, ev_]) ∧ Below w.heap.size w w' := by
 unfold strconv_Atoi_26.f at h
 by_cases c : a0.size ≤ 18
 rotate_left
 · rw [if_neg c] at h
   cases h
 rw [if_pos c] at h
 obtain ⟨rfl, _⟩ := Prod.mk.inj (Option.some.inj h)
 obtain ⟨_, te, pe, hv⟩ := hW
 cases ha : Lib.atoi a0.data.toList with
 | some n =>
  refine (Tryd.strconv_Atoi a0 n c ha w).mono fun e w' hx => ?_
  obtain ⟨he, t, hw⟩ := hx
  subst hw
  exact ⟨_, he, Lib.bytesWorld_below _ _ _⟩
 | none =>
  refine (Tryd.strconv_Atoi_err a0 c ha (.iface te pe) w hv (.inr ⟨te, pe, rfl⟩)).mono fun e w' hx => ?_
  obtain ⟨N, he, _, _, hb⟩ := hx
  exact ⟨_, he, hb⟩
end Go.Proofs.YtagfiehoodepbaaDoor.PFnOpStrict
