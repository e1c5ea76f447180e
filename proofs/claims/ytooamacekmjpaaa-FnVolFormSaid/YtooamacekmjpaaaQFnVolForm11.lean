/- The walk: each function that the law comes to as a plain Lean function, and a proof that the Go code answers so. Written by this session's program over the kit's printer. -/
import Derived.Test.YtooamacekmjpaaaZ
import Derived.Test.YtooamacekmjpaaaQFnVolForm0
import Derived.Test.YtooamacekmjpaaaQFnVolForm1
import Derived.Test.YtooamacekmjpaaaQFnVolForm10
namespace Go.Proofs.Ytooamacekmjpaaa.PFnVolForm
open Go.RowKit Go.Proofs.YtooamacekmjpaaaW.PrintWords Go.Proofs.YtooamacekmjpaaaW.PrintLast Go.Proofs.YtooamacekmjpaaaW.PrintMore
attribute [local go_sem] max2_int min2_int max_two min_two max_three min_three max_four min_four   -- for this text's walks alone
set_option linter.unusedVariables false
set_option linter.unusedSimpArgs false
/-! ### impl_VolOk: function 20 -/
def impl_VolOk.l0 : Nat → List Int → Int → Int → ByteArray → List Int → Option (Bool)
 | 0, _, _, _, _, _ => none
 | k + 1, x6, x7, x8, x477000, x477001 => if x8 < x7 then (if 0 ≤ x8 then (if x8 < (x6.length : Int) then ((impl_within.f (rd x6 x8) 0 8).bind fun t478 => (if t478 = true then (impl_VolOk.l0 k x6 x7 (wrap64 (x8 + 1)) x477000 x477001) else (some false))) else (none)) else (none)) else ((impl_isName.f x477000).bind fun t479 => (if t479 = true then ((impl_within.f (x477001.length : Int) 1 6).bind fun t480 => (some t480)) else (some false)))
def impl_VolOk.f (k : Nat) (a0_0 : ByteArray) (l0_1 : List Int) : Option (Bool) := impl_VolOk.l0 k l0_1 (l0_1.length : Int) 0 a0_0 l0_1
theorem impl_VolOk.mono_l : ∀ k, (∀ y0 y1 y2 y3 y4, LeO (impl_VolOk.l0 k y0 y1 y2 y3 y4) (impl_VolOk.l0 (k + 1) y0 y1 y2 y3 y4))
 | 0 => fun _ _ _ _ _ r h => by simp [impl_VolOk.l0] at h
 | k + 1 => by
  have ih0 := impl_VolOk.mono_l k
  intro y0 y1 y2 y3 y4
  unfold impl_VolOk.l0
  exact mo1 ih0
theorem impl_VolOk.mono : ∀ a0 a1 k, LeO (impl_VolOk.f k a0 a1) (impl_VolOk.f (k + 1) a0 a1) := by
 intro a0 a1 k
 have ih0 := impl_VolOk.mono_l k
 unfold impl_VolOk.f
 exact mo1 ih0
set_option maxHeartbeats 8000000 in
set_option maxRecDepth 100000 in
theorem impl_VolOk.calls (k : Nat) (a0_0 : ByteArray) (A0_1 : Option Addr) (c0_1 : Nat) (l0_1 : List Int) (r : Bool) (w : World) (hr0_1 : Kd.C (Kd.int .i64) w A0_1 l0_1.length l0_1) (hc0_1 : l0_1.length ≤ c0_1) (h : impl_VolOk.f k a0_0 l0_1 = some r) :
 Calls Try.prog 20 #[.agg #[.string a0_0, .slice A0_1 l0_1.length c0_1]] w fun e w' => e = .returned (.bool r) ∧ Below w.heap.size w w' := by
 have hu38 := Try.underlying38
 have HR0_1 := am hr0_1
 have HC0_1 := am hc0_1
 clear hr0_1 hc0_1
 have HB := am (Below.refl w.heap.size w)
 have H : (impl_VolOk.l0 k l0_1 (l0_1.length : Int) 0 a0_0 l0_1) = some r := h
 clear h
 have H' := am H
 clear H
 go_enter Try.func20, Try.ntmps20
 go_wp2_with (first | ((with_reducible refine gate_dst (N := 1) rfl ?_); (try (refine gate_guard (by rfl) ?_; dsimp only)); refine bx 38 #[.string a0_0, .slice A0_1 l0_1.length c0_1] ?_; intro gb476 hg w2 hbox hb; have BK476 := am (hbox); have GW476 := am (zn hg (zb HB)); have GE476 := am (zn hg (zb HB)); replace HB := am (below_step (zb HB) hb); clear hb hbox hg; have hcz3_0 := ce0 BK476; have hcz3_1 := ce1 BK476; have hfz3_0 := bfz BK476 0; have hfz3_1 := bfz BK476 1))
 go_loopg [8] k (fun kq v8 w' => ∃ (x8_1 : Int), v8 = .int .i64 x8_1 ∧ Aside0 (impl_VolOk.l0 kq l0_1 (l0_1.length : Int) x8_1 a0_0 l0_1 = some r) ∧ Aside0 (kq ≤ k) ∧ Aside0 (w'.heap[gb476]? = some (.cells #[.string a0_0, (.slice A0_1 l0_1.length c0_1)] 38 (0, 0))) ∧ Aside0 (Below w.heap.size w w'))
 case atStart => exact ⟨(0), ze, H', ⟨Nat.le_refl _⟩, ⟨zk BK476⟩, ⟨zb HB⟩⟩
 case round =>
  clear H'
  try clear c2
  try clear p2
  try clear hcz3_0
  try clear hcz3_1
  try clear hfz3_0
  try clear hfz3_1
  obtain ⟨x8_1, rfl, HA, HK1, BK476, HB⟩ := hrel
  cases gk with
  | zero => exact absurd HA.out (by simp [impl_VolOk.l0])
  | succ k1 =>
   have H := HA.out
   clear HA
   simp only [impl_VolOk.l0] at H
   by_cases c4 : x8_1 < (l0_1.length : Int)
   rotate_left
   · rw [if_neg c4] at H
     have c4b0 : decide (x8_1 < (l0_1.length : Int)) = false := decide_eq_false c4
     clear c4
     replace H := obs H
     obtain ⟨t479, A90, H⟩ := H
     replace H : (if t479 = true then ((impl_within.f (l0_1.length : Int) 1 6).bind fun t480 => (some t480)) else (some false)) = some r := H
     have A9 := am A90
     clear A90
     by_cases c10 : t479 = true
     rotate_left
     · replace c10 := Bool.eq_false_iff.mpr c10
       subst c10
       have H1 : (some false) = some r := by rw [if_neg (show ¬ (false = true) by decide)] at H; exact H
       clear H
       have H := H1
       clear H1
       obtain rfl := Option.some.inj H
       have hcz13_0 := ce0 BK476
       have hcz13_1 := ce1 BK476
       have hfz13_0 := bfz BK476 0
       have hfz13_1 := bfz BK476 1
       go_wp2_with (first | ((with_reducible refine gate_callee (f := 54) rfl ?_); refine gl Try.func54 18 #[.string a0_0] rfl rfl rfl ?_; (with_reducible refine (impl_isName.calls a0_0 false _ A9.out).mono ?_); rintro e w' ⟨rfl, ⟨nd, rfl⟩⟩; refine ⟨_, rfl, ?_⟩))
       go_ret
       exact ⟨zv, (zb HB)⟩
     subst c10
     have H1 : ((impl_within.f (l0_1.length : Int) 1 6).bind fun t480 => (some t480)) = some r := by rw [if_pos rfl] at H; exact H
     clear H
     have H := H1
     clear H1
     replace H := obs H
     obtain ⟨t480, A110, H⟩ := H
     replace H : (some t480) = some r := H
     have A11 := am A110
     clear A110
     obtain rfl := Option.some.inj H
     have hcz12_0 := ce0 BK476
     have hcz12_1 := ce1 BK476
     have hfz12_0 := bfz BK476 0
     have hfz12_1 := bfz BK476 1
     go_wp2_with (first | ((with_reducible refine gate_callee (f := 54) rfl ?_); refine gl Try.func54 18 #[.string a0_0] rfl rfl rfl ?_; (with_reducible refine (impl_isName.calls a0_0 true _ A9.out).mono ?_); rintro e w' ⟨rfl, ⟨nd, rfl⟩⟩; refine ⟨_, rfl, ?_⟩) | (go_at_call 53; (with_reducible refine (impl_within.calls (l0_1.length : Int) 1 6 t480 _ A11.out).mono ?_); rintro e w' ⟨rfl, ⟨nd, rfl⟩⟩))
     go_ret
     exact ⟨zv, (zb HB)⟩
   rw [if_pos c4] at H
   have c4b0 : decide (x8_1 < (l0_1.length : Int)) = true := decide_eq_true c4
   clear c4
   by_cases c5 : 0 ≤ x8_1
   rotate_left
   · rw [if_neg c5] at H
     exact absurd H (by simp)
   rw [if_pos c5] at H
   have c5b0 : decide (0 ≤ x8_1) = true := decide_eq_true c5
   clear c5
   by_cases c6 : x8_1 < (l0_1.length : Int)
   rotate_left
   · rw [if_neg c6] at H
     exact absurd H (by simp)
   rw [if_pos c6] at H
   have c6b0 : decide (x8_1 < (l0_1.length : Int)) = true := decide_eq_true c6
   clear c6
   replace H := obs H
   obtain ⟨t478, A70, H⟩ := H
   replace H : (if t478 = true then (impl_VolOk.l0 k1 l0_1 (l0_1.length : Int) (wrap64 (x8_1 + 1)) a0_0 l0_1) else (some false)) = some r := H
   have A7 := am A70
   clear A70
   by_cases c8 : t478 = true
   · subst c8
     have H1 : (impl_VolOk.l0 k1 l0_1 (l0_1.length : Int) (wrap64 (x8_1 + 1)) a0_0 l0_1) = some r := by rw [if_pos rfl] at H; exact H
     clear H
     have H := H1
     clear H1
     have H' := am H
     clear H
     have p477 : 0 ≤ (x8_1 : Int) := of_decide_eq_true zl
     have q477 : x8_1 < (l0_1.length : Int) := of_decide_eq_true zl
     obtain ⟨ad477, e477, hx477_0⟩ := Kd.at_int HR0_1.out x8_1 p477 q477
     cases e477
     replace hx477_0 := hcx HB hx477_0
     replace p477 := eq_true p477
     replace q477 := eq_true q477
     go_wp2_with (first | ((with_reducible refine gate_callee (f := 53) rfl ?_); refine gl Try.func53 13 #[.int .i64 (rd l0_1 x8_1), .int .i64 0, .int .i64 8] rfl rfl rfl ?_; (with_reducible refine (impl_within.calls (rd l0_1 x8_1) 0 8 true _ A7.out).mono ?_); rintro e w' ⟨rfl, ⟨nd, rfl⟩⟩; refine ⟨_, rfl, ?_⟩))
     go_roundg k1
     case measure => have := HK1.out; omega
     case rel => exact ⟨(wrap64 (x8_1 + 1)), ze, H', ⟨by have := HK1.out; omega⟩, ⟨zk BK476⟩, ⟨zb HB⟩⟩
   replace c8 := Bool.eq_false_iff.mpr c8
   subst c8
   have H1 : (some false) = some r := by rw [if_neg (show ¬ (false = true) by decide)] at H; exact H
   clear H
   have H := H1
   clear H1
   obtain rfl := Option.some.inj H
   have p477 : 0 ≤ (x8_1 : Int) := of_decide_eq_true zl
   have q477 : x8_1 < (l0_1.length : Int) := of_decide_eq_true zl
   obtain ⟨ad477, e477, hx477_0⟩ := Kd.at_int HR0_1.out x8_1 p477 q477
   cases e477
   replace hx477_0 := hcx HB hx477_0
   replace p477 := eq_true p477
   replace q477 := eq_true q477
   go_wp2_with (first | ((with_reducible refine gate_callee (f := 53) rfl ?_); refine gl Try.func53 13 #[.int .i64 (rd l0_1 x8_1), .int .i64 0, .int .i64 8] rfl rfl rfl ?_; (with_reducible refine (impl_within.calls (rd l0_1 x8_1) 0 8 false _ A7.out).mono ?_); rintro e w' ⟨rfl, ⟨nd, rfl⟩⟩; refine ⟨_, rfl, ?_⟩))
   go_ret
   exact ⟨zv, (zb HB)⟩
/-! ### spec_VolOk: function 21 -/
def spec_VolOk.l0 : Nat → Int → ByteArray → List Int → Option (Bool)
 | 0, _, _, _ => none
 | k + 1, x3, x482000, x482001 => if x3 < (x482001.length : Int) then (if 0 ≤ x3 then ((spec_l6In.f (rd x482001 x3) 0 8).bind fun t483 => (if t483 = true then (spec_VolOk.l0 k (wrap64 (x3 + 1)) x482000 x482001) else (some false))) else (none)) else ((spec_l3Name.f x482000).bind fun t484 => (if t484 = true then ((spec_l6In.f (x482001.length : Int) 1 6).bind fun t485 => (some t485)) else (some false)))
def spec_VolOk.f (k : Nat) (a0_0 : ByteArray) (l0_1 : List Int) : Option (Bool) := spec_VolOk.l0 k 0 a0_0 l0_1
theorem spec_VolOk.mono_l : ∀ k, (∀ y0 y1 y2, LeO (spec_VolOk.l0 k y0 y1 y2) (spec_VolOk.l0 (k + 1) y0 y1 y2))
 | 0 => fun _ _ _ r h => by simp [spec_VolOk.l0] at h
 | k + 1 => by
  have ih0 := spec_VolOk.mono_l k
  intro y0 y1 y2
  unfold spec_VolOk.l0
  exact mo1 ih0
theorem spec_VolOk.mono : ∀ a0 a1 k, LeO (spec_VolOk.f k a0 a1) (spec_VolOk.f (k + 1) a0 a1) := by
 intro a0 a1 k
 have ih0 := spec_VolOk.mono_l k
 unfold spec_VolOk.f
 exact mo1 ih0
set_option maxHeartbeats 8000000 in
set_option maxRecDepth 100000 in
theorem spec_VolOk.calls (k : Nat) (a0_0 : ByteArray) (A0_1 : Option Addr) (c0_1 : Nat) (l0_1 : List Int) (r : Bool) (w : World) (hr0_1 : Kd.C (Kd.int .i64) w A0_1 l0_1.length l0_1) (hc0_1 : l0_1.length ≤ c0_1) (h : spec_VolOk.f k a0_0 l0_1 = some r) :
 Calls Try.prog 21 #[.agg #[.string a0_0, .slice A0_1 l0_1.length c0_1]] w fun e w' => e = .returned (.bool r) ∧ Below w.heap.size w w' := by
 have hu38 := Try.underlying38
 have HR0_1 := am hr0_1
 have HC0_1 := am hc0_1
 clear hr0_1 hc0_1
 have HB := am (Below.refl w.heap.size w)
 have H : (spec_VolOk.l0 k 0 a0_0 l0_1) = some r := h
 clear h
 have H' := am H
 clear H
 go_enter Try.func21, Try.ntmps21
 go_wp2_with (first | ((with_reducible refine gate_dst (N := 1) rfl ?_); (try (refine gate_guard (by rfl) ?_; dsimp only)); refine bx 38 #[.string a0_0, .slice A0_1 l0_1.length c0_1] ?_; intro gb481 hg w2 hbox hb; have BK481 := am (hbox); have GW481 := am (zn hg (zb HB)); have GE481 := am (zn hg (zb HB)); replace HB := am (below_step (zb HB) hb); clear hb hbox hg))
 go_loopg [3] k (fun kq v3 w' => ∃ (x3_1 : Int), v3 = .int .i64 x3_1 ∧ Aside0 (spec_VolOk.l0 kq x3_1 a0_0 l0_1 = some r) ∧ Aside0 (kq ≤ k) ∧ Aside0 (w'.heap[gb481]? = some (.cells #[.string a0_0, (.slice A0_1 l0_1.length c0_1)] 38 (0, 0))) ∧ Aside0 (Below w.heap.size w w'))
 case atStart => exact ⟨(0), ze, H', ⟨Nat.le_refl _⟩, ⟨zk BK481⟩, ⟨zb HB⟩⟩
 case round =>
  clear H'
  try clear c2
  try clear p2
  obtain ⟨x3_1, rfl, HA, HK1, BK481, HB⟩ := hrel
  cases gk with
  | zero => exact absurd HA.out (by simp [spec_VolOk.l0])
  | succ k1 =>
   have H := HA.out
   clear HA
   simp only [spec_VolOk.l0] at H
   by_cases c3 : x3_1 < (l0_1.length : Int)
   rotate_left
   · rw [if_neg c3] at H
     have c3b0 : decide (x3_1 < (l0_1.length : Int)) = false := decide_eq_false c3
     clear c3
     replace H := obs H
     obtain ⟨t484, A90, H⟩ := H
     replace H : (if t484 = true then ((spec_l6In.f (l0_1.length : Int) 1 6).bind fun t485 => (some t485)) else (some false)) = some r := H
     have A9 := am A90
     clear A90
     by_cases c10 : t484 = true
     rotate_left
     · replace c10 := Bool.eq_false_iff.mpr c10
       subst c10
       have H1 : (some false) = some r := by rw [if_neg (show ¬ (false = true) by decide)] at H; exact H
       clear H
       have H := H1
       clear H1
       obtain rfl := Option.some.inj H
       have hcz13_0 := ce0 BK481
       have hcz13_1 := ce1 BK481
       have hfz13_0 := bfz BK481 0
       have hfz13_1 := bfz BK481 1
       go_wp2_with (first | ((with_reducible refine gate_callee (f := 56) rfl ?_); refine gl Try.func56 20 #[.string a0_0] rfl rfl rfl ?_; (with_reducible refine (spec_l3Name.calls a0_0 false _ A9.out).mono ?_); rintro e w' ⟨rfl, ⟨nd, rfl⟩⟩; refine ⟨_, rfl, ?_⟩))
       go_ret
       exact ⟨zv, (zb HB)⟩
     subst c10
     have H1 : ((spec_l6In.f (l0_1.length : Int) 1 6).bind fun t485 => (some t485)) = some r := by rw [if_pos rfl] at H; exact H
     clear H
     have H := H1
     clear H1
     replace H := obs H
     obtain ⟨t485, A110, H⟩ := H
     replace H : (some t485) = some r := H
     have A11 := am A110
     clear A110
     obtain rfl := Option.some.inj H
     have hcz12_0 := ce0 BK481
     have hcz12_1 := ce1 BK481
     have hfz12_0 := bfz BK481 0
     have hfz12_1 := bfz BK481 1
     go_wp2_with (first | ((with_reducible refine gate_callee (f := 56) rfl ?_); refine gl Try.func56 20 #[.string a0_0] rfl rfl rfl ?_; (with_reducible refine (spec_l3Name.calls a0_0 true _ A9.out).mono ?_); rintro e w' ⟨rfl, ⟨nd, rfl⟩⟩; refine ⟨_, rfl, ?_⟩) | (go_at_call 55; (with_reducible refine (spec_l6In.calls (l0_1.length : Int) 1 6 t485 _ A11.out).mono ?_); rintro e w' ⟨rfl, ⟨nd, rfl⟩⟩))
     go_ret
     exact ⟨zv, (zb HB)⟩
   rw [if_pos c3] at H
   have c3b0 : decide (x3_1 < (l0_1.length : Int)) = true := decide_eq_true c3
   clear c3
   by_cases c4 : 0 ≤ x3_1
   rotate_left
   · rw [if_neg c4] at H
     exact absurd H (by simp)
   rw [if_pos c4] at H
   have c4b0 : decide (0 ≤ x3_1) = true := decide_eq_true c4
   clear c4
   replace H := obs H
   obtain ⟨t483, A50, H⟩ := H
   replace H : (if t483 = true then (spec_VolOk.l0 k1 (wrap64 (x3_1 + 1)) a0_0 l0_1) else (some false)) = some r := H
   have A5 := am A50
   clear A50
   by_cases c6 : t483 = true
   · subst c6
     have H1 : (spec_VolOk.l0 k1 (wrap64 (x3_1 + 1)) a0_0 l0_1) = some r := by rw [if_pos rfl] at H; exact H
     clear H
     have H := H1
     clear H1
     have H' := am H
     clear H
     have hcz7_0 := ce0 BK481
     have hcz7_1 := ce1 BK481
     have hfz7_0 := bfz BK481 0
     have hfz7_1 := bfz BK481 1
     have p482 : 0 ≤ (x3_1 : Int) := of_decide_eq_true zl
     have q482 : x3_1 < (l0_1.length : Int) := of_decide_eq_true zl
     obtain ⟨ad482, e482, hx482_0⟩ := Kd.at_int HR0_1.out x3_1 p482 q482
     cases e482
     replace hx482_0 := hcx HB hx482_0
     replace p482 := eq_true p482
     replace q482 := eq_true q482
     go_wp2_with (first | ((with_reducible refine gate_callee (f := 55) rfl ?_); refine gl Try.func55 16 #[.int .i64 (rd l0_1 x3_1), .int .i64 0, .int .i64 8] rfl rfl rfl ?_; (with_reducible refine (spec_l6In.calls (rd l0_1 x3_1) 0 8 true _ A5.out).mono ?_); rintro e w' ⟨rfl, ⟨nd, rfl⟩⟩; refine ⟨_, rfl, ?_⟩))
     go_roundg k1
     case measure => have := HK1.out; omega
     case rel => exact ⟨(wrap64 (x3_1 + 1)), ze, H', ⟨by have := HK1.out; omega⟩, ⟨zk BK481⟩, ⟨zb HB⟩⟩
   replace c6 := Bool.eq_false_iff.mpr c6
   subst c6
   have H1 : (some false) = some r := by rw [if_neg (show ¬ (false = true) by decide)] at H; exact H
   clear H
   have H := H1
   clear H1
   obtain rfl := Option.some.inj H
   have hcz8_0 := ce0 BK481
   have hcz8_1 := ce1 BK481
   have hfz8_0 := bfz BK481 0
   have hfz8_1 := bfz BK481 1
   have p482 : 0 ≤ (x3_1 : Int) := of_decide_eq_true zl
   have q482 : x3_1 < (l0_1.length : Int) := of_decide_eq_true zl
   obtain ⟨ad482, e482, hx482_0⟩ := Kd.at_int HR0_1.out x3_1 p482 q482
   cases e482
   replace hx482_0 := hcx HB hx482_0
   replace p482 := eq_true p482
   replace q482 := eq_true q482
   go_wp2_with (first | ((with_reducible refine gate_callee (f := 55) rfl ?_); refine gl Try.func55 16 #[.int .i64 (rd l0_1 x3_1), .int .i64 0, .int .i64 8] rfl rfl rfl ?_; (with_reducible refine (spec_l6In.calls (rd l0_1 x3_1) 0 8 false _ A5.out).mono ?_); rintro e w' ⟨rfl, ⟨nd, rfl⟩⟩; refine ⟨_, rfl, ?_⟩))
   go_ret
   exact ⟨zv, (zb HB)⟩
end Go.Proofs.Ytooamacekmjpaaa.PFnVolForm
