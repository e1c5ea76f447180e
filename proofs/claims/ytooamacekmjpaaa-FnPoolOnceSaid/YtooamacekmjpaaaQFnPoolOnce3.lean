/- The walk: each function that the law comes to as a plain Lean function, and a proof that the Go code answers so. Written by this session's program over the kit's printer. -/
import Derived.Test.YtooamacekmjpaaaZ
import Derived.Test.YtooamacekmjpaaaQFnPoolOnce0
namespace Go.Proofs.Ytooamacekmjpaaa.PFnPoolOnce
open Go.RowKit Go.Proofs.YtooamacekmjpaaaW.PrintWords Go.Proofs.YtooamacekmjpaaaW.PrintLast Go.Proofs.YtooamacekmjpaaaW.PrintMore
attribute [local go_sem] max2_int min2_int max_two min_two max_three min_three max_four min_four   -- for this text's walks alone
set_option linter.unusedVariables false
set_option linter.unusedSimpArgs false
/-! ### spec_l3Uses: function 60 -/
def spec_l3Uses.l0 : Nat → Int → Int → Int → ByteArray → List Int → Option (Int)
 | 0, _, _, _, _, _ => none
 | k + 1, x1, x5, x6, x118000, x118001 => if x6 < (x118001.length : Int) then (if 0 ≤ x6 then (if (rd x118001 x6) = x1 then (spec_l3Uses.l0 k x1 (wrap64 (x5 + 1)) (wrap64 (x6 + 1)) x118000 x118001) else (spec_l3Uses.l0 k x1 x5 (wrap64 (x6 + 1)) x118000 x118001)) else (none)) else (some x5)
def spec_l3Uses.f (k : Nat) (a0_0 : ByteArray) (l0_1 : List Int) (a1 : Int) : Option (Int) := spec_l3Uses.l0 k a1 0 0 a0_0 l0_1
theorem spec_l3Uses.mono_l : ∀ k, (∀ y0 y1 y2 y3 y4, LeO (spec_l3Uses.l0 k y0 y1 y2 y3 y4) (spec_l3Uses.l0 (k + 1) y0 y1 y2 y3 y4))
 | 0 => fun _ _ _ _ _ r h => by simp [spec_l3Uses.l0] at h
 | k + 1 => by
  have ih0 := spec_l3Uses.mono_l k
  intro y0 y1 y2 y3 y4
  unfold spec_l3Uses.l0
  exact mo1 ih0
theorem spec_l3Uses.mono : ∀ a0 a1 a2 k, LeO (spec_l3Uses.f k a0 a1 a2) (spec_l3Uses.f (k + 1) a0 a1 a2) := by
 intro a0 a1 a2 k
 have ih0 := spec_l3Uses.mono_l k
 unfold spec_l3Uses.f
 exact mo1 ih0
set_option maxHeartbeats 8000000 in
set_option maxRecDepth 100000 in
theorem spec_l3Uses.calls (k : Nat) (a0_0 : ByteArray) (A0_1 : Option Addr) (c0_1 : Nat) (l0_1 : List Int) (a1 : Int) (r : Int) (w : World) (hr0_1 : Kd.C (Kd.int .i64) w A0_1 l0_1.length l0_1) (hc0_1 : l0_1.length ≤ c0_1) (h : spec_l3Uses.f k a0_0 l0_1 a1 = some r) :
 Calls Try.prog 60 #[.agg #[.string a0_0, .slice A0_1 l0_1.length c0_1], .int .i64 a1] w fun e w' => e = .returned (.int .i64 r) ∧ Below w.heap.size w w' := by
 have hu38 := Try.underlying38
 have HR0_1 := am hr0_1
 have HC0_1 := am hc0_1
 clear hr0_1 hc0_1
 have HB := am (Below.refl w.heap.size w)
 have H : (spec_l3Uses.l0 k a1 0 0 a0_0 l0_1) = some r := h
 clear h
 have H' := am H
 clear H
 go_enter Try.func60, Try.ntmps60
 go_wp2_with (first | ((with_reducible refine gate_dst (N := 2) rfl ?_); refine bx 38 #[.string a0_0, .slice A0_1 l0_1.length c0_1] ?_; intro gb117 hg w3 hbox hb; have BK117 := am (hbox); have GW117 := am (zn hg (zb HB)); have GE117 := am (zn hg (zb HB)); replace HB := am (below_step (zb HB) hb); clear hb hbox hg))
 go_loopg [5, 6] k (fun kq v5 v6 w' => ∃ (x5_1 : Int) (x6_1 : Int), v5 = .int .i64 x5_1 ∧ v6 = .int .i64 x6_1 ∧ Aside0 (spec_l3Uses.l0 kq a1 x5_1 x6_1 a0_0 l0_1 = some r) ∧ Aside0 (kq ≤ k) ∧ Aside0 (w'.heap[gb117]? = some (.cells #[.string a0_0, (.slice A0_1 l0_1.length c0_1)] 38 (0, 0))) ∧ Aside0 (Below w.heap.size w w'))
 case atStart => exact ⟨(0), (0), ze, ze, H', ⟨Nat.le_refl _⟩, ⟨zk BK117⟩, ⟨zb HB⟩⟩
 case round =>
  clear H'
  try clear p2
  obtain ⟨x5_1, x6_1, rfl, rfl, HA, HK1, BK117, HB⟩ := hrel
  cases gk with
  | zero => exact absurd HA.out (by simp [spec_l3Uses.l0])
  | succ k1 =>
   have H := HA.out
   clear HA
   simp only [spec_l3Uses.l0] at H
   by_cases c4 : x6_1 < (l0_1.length : Int)
   rotate_left
   · rw [if_neg c4] at H
     have c4b0 : decide (x6_1 < (l0_1.length : Int)) = false := decide_eq_false c4
     clear c4
     obtain rfl := Option.some.inj H
     have hcz9_0 := ce0 BK117
     have hcz9_1 := ce1 BK117
     have hfz9_0 := bfz BK117 0
     have hfz9_1 := bfz BK117 1
     go_wp2
     go_ret
     exact ⟨zv, (zb HB)⟩
   rw [if_pos c4] at H
   have c4b0 : decide (x6_1 < (l0_1.length : Int)) = true := decide_eq_true c4
   clear c4
   by_cases c5 : 0 ≤ x6_1
   rotate_left
   · rw [if_neg c5] at H
     exact absurd H (by simp)
   rw [if_pos c5] at H
   have c5b0 : decide (0 ≤ x6_1) = true := decide_eq_true c5
   clear c5
   by_cases c6 : (rd l0_1 x6_1) = a1
   · rw [if_pos c6] at H
     have c6b0 : ((rd l0_1 x6_1) == a1) = true := beq_iff_eq.mpr c6
     have c6b1 : ((rd l0_1 x6_1) != a1) = false := bne_eq_false_iff_eq.mpr c6
     clear c6
     have H' := am H
     clear H
     have hcz7_0 := ce0 BK117
     have hcz7_1 := ce1 BK117
     have hfz7_0 := bfz BK117 0
     have hfz7_1 := bfz BK117 1
     have p118 : 0 ≤ (x6_1 : Int) := of_decide_eq_true zl
     have q118 : x6_1 < (l0_1.length : Int) := of_decide_eq_true zl
     obtain ⟨ad118, e118, hx118_0⟩ := Kd.at_int HR0_1.out x6_1 p118 q118
     cases e118
     replace hx118_0 := hcx HB hx118_0
     replace p118 := eq_true p118
     replace q118 := eq_true q118
     go_wp2
     go_roundg k1
     case measure => have := HK1.out; omega
     case rel => exact ⟨(wrap64 (x5_1 + 1)), (wrap64 (x6_1 + 1)), ze, ze, H', ⟨by have := HK1.out; omega⟩, ⟨zk BK117⟩, ⟨zb HB⟩⟩
   rw [if_neg c6] at H
   have c6b0 : ((rd l0_1 x6_1) == a1) = false := beq_eq_false_iff_ne.mpr c6
   have c6b1 : ((rd l0_1 x6_1) != a1) = true := bne_iff_ne.mpr c6
   have H' := am H
   clear H
   have hcz8_0 := ce0 BK117
   have hcz8_1 := ce1 BK117
   have hfz8_0 := bfz BK117 0
   have hfz8_1 := bfz BK117 1
   have p118 : 0 ≤ (x6_1 : Int) := of_decide_eq_true zl
   have q118 : x6_1 < (l0_1.length : Int) := of_decide_eq_true zl
   obtain ⟨ad118, e118, hx118_0⟩ := Kd.at_int HR0_1.out x6_1 p118 q118
   cases e118
   replace hx118_0 := hcx HB hx118_0
   replace p118 := eq_true p118
   replace q118 := eq_true q118
   go_wp2
   go_roundg k1
   case measure => have := HK1.out; omega
   case rel => exact ⟨(x5_1), (wrap64 (x6_1 + 1)), ze, ze, H', ⟨by have := HK1.out; omega⟩, ⟨zk BK117⟩, ⟨zb HB⟩⟩
/-! ### spec_l11Uses: function 42 -/
def spec_l11Uses.l0 : Nat → Int → Int → Int → List (S55) → List (S38) → Option (Int)
 | 0, _, _, _, _, _ => none
 | k + 1, x1, x5, x6, x120000, x120001 => if x6 < (x120001.length : Int) then (if 0 ≤ x6 then ((spec_l3Uses.f k ((rd_T38 x120001 x6).f0) ((rd_T38 x120001 x6).f1) x1).bind fun t121 => (spec_l11Uses.l0 k x1 (wrap64 (x5 + t121)) (wrap64 (x6 + 1)) x120000 x120001)) else (none)) else (some x5)
def spec_l11Uses.f (k : Nat) (l0_0 : List (S55)) (l0_1 : List (S38)) (a1 : Int) : Option (Int) := spec_l11Uses.l0 k a1 0 0 l0_0 l0_1
theorem spec_l11Uses.mono_l : ∀ k, (∀ y0 y1 y2 y3 y4, LeO (spec_l11Uses.l0 k y0 y1 y2 y3 y4) (spec_l11Uses.l0 (k + 1) y0 y1 y2 y3 y4))
 | 0 => fun _ _ _ _ _ r h => by simp [spec_l11Uses.l0] at h
 | k + 1 => by
  have ih0 := spec_l11Uses.mono_l k
  intro y0 y1 y2 y3 y4
  unfold spec_l11Uses.l0
  exact mo2 ih0 @spec_l3Uses.mono
theorem spec_l11Uses.mono : ∀ a0 a1 a2 k, LeO (spec_l11Uses.f k a0 a1 a2) (spec_l11Uses.f (k + 1) a0 a1 a2) := by
 intro a0 a1 a2 k
 have ih0 := spec_l11Uses.mono_l k
 unfold spec_l11Uses.f
 exact mo2 ih0 @spec_l3Uses.mono
set_option maxHeartbeats 8000000 in
set_option maxRecDepth 100000 in
theorem spec_l11Uses.calls (k : Nat) (A0_0 : Option Addr) (c0_0 : Nat) (l0_0 : List (S55)) (A0_1 : Option Addr) (c0_1 : Nat) (l0_1 : List (S38)) (a1 : Int) (r : Int) (w : World) (hr0_0 : Kd.C k55 w A0_0 l0_0.length l0_0) (hc0_0 : l0_0.length ≤ c0_0) (hr0_1 : Kd.C k38 w A0_1 l0_1.length l0_1) (hc0_1 : l0_1.length ≤ c0_1) (h : spec_l11Uses.f k l0_0 l0_1 a1 = some r) :
 Calls Try.prog 42 #[.agg #[.slice A0_0 l0_0.length c0_0, .slice A0_1 l0_1.length c0_1], .int .i64 a1] w fun e w' => e = .returned (.int .i64 r) ∧ Below w.heap.size w w' := by
 have hu31 := Try.underlying31
 have hu38 := Try.underlying38
 have HR0_0 := am hr0_0
 have HC0_0 := am hc0_0
 clear hr0_0 hc0_0
 have HR0_1 := am hr0_1
 have HC0_1 := am hc0_1
 clear hr0_1 hc0_1
 have HB := am (Below.refl w.heap.size w)
 have H : (spec_l11Uses.l0 k a1 0 0 l0_0 l0_1) = some r := h
 clear h
 have H' := am H
 clear H
 go_enter Try.func42, Try.ntmps42
 go_wp2_with (first | ((with_reducible refine gate_dst (N := 2) rfl ?_); refine bx 31 #[.slice A0_0 l0_0.length c0_0, .slice A0_1 l0_1.length c0_1] ?_; intro gb119 hg w3 hbox hb; have BK119 := am (hbox); have GW119 := am (zn hg (zb HB)); have GE119 := am (zn hg (zb HB)); replace HB := am (below_step (zb HB) hb); clear hb hbox hg))
 go_loopg [5, 6] k (fun kq v5 v6 w' => ∃ (x5_1 : Int) (x6_1 : Int), v5 = .int .i64 x5_1 ∧ v6 = .int .i64 x6_1 ∧ Aside0 (spec_l11Uses.l0 kq a1 x5_1 x6_1 l0_0 l0_1 = some r) ∧ Aside0 (kq ≤ k) ∧ Aside0 (w'.heap[gb119]? = some (.cells #[(.slice A0_0 l0_0.length c0_0), (.slice A0_1 l0_1.length c0_1)] 31 (0, 0))) ∧ Aside0 (Below w.heap.size w w'))
 case atStart => exact ⟨(0), (0), ze, ze, H', ⟨Nat.le_refl _⟩, ⟨zk BK119⟩, ⟨zb HB⟩⟩
 case round =>
  clear H'
  try clear p2
  obtain ⟨x5_1, x6_1, rfl, rfl, HA, HK1, BK119, HB⟩ := hrel
  cases gk with
  | zero => exact absurd HA.out (by simp [spec_l11Uses.l0])
  | succ k1 =>
   have H := HA.out
   clear HA
   simp only [spec_l11Uses.l0] at H
   by_cases c4 : x6_1 < (l0_1.length : Int)
   rotate_left
   · rw [if_neg c4] at H
     have c4b0 : decide (x6_1 < (l0_1.length : Int)) = false := decide_eq_false c4
     clear c4
     obtain rfl := Option.some.inj H
     have hcz9_0 := ce0 BK119
     have hcz9_1 := ce1 BK119
     have hfz9_0 := bfz BK119 0
     have hfz9_1 := bfz BK119 1
     go_wp2
     go_ret
     exact ⟨zv, (zb HB)⟩
   rw [if_pos c4] at H
   have c4b0 : decide (x6_1 < (l0_1.length : Int)) = true := decide_eq_true c4
   clear c4
   by_cases c5 : 0 ≤ x6_1
   rotate_left
   · rw [if_neg c5] at H
     exact absurd H (by simp)
   rw [if_pos c5] at H
   have c5b0 : decide (0 ≤ x6_1) = true := decide_eq_true c5
   clear c5
   replace H := obs H
   obtain ⟨t121, A60, H⟩ := H
   replace H : (spec_l11Uses.l0 k1 a1 (wrap64 (x5_1 + t121)) (wrap64 (x6_1 + 1)) l0_0 l0_1) = some r := H
   have A6 := am A60
   clear A60
   have H' := am H
   clear H
   have hcz7_0 := ce0 BK119
   have hcz7_1 := ce1 BK119
   have hfz7_0 := bfz BK119 0
   have hfz7_1 := bfz BK119 1
   have p120 : 0 ≤ (x6_1 : Int) := of_decide_eq_true zl
   have q120 : x6_1 < (l0_1.length : Int) := of_decide_eq_true zl
   obtain ⟨ad120, A120_1, c120_1, e120, hx120_0, hx120_1, hl120_1, hi120_1⟩ := at_T38 HR0_1.out x6_1 p120 q120
   cases e120
   replace hx120_0 := hcx HB hx120_0
   replace hx120_1 := hcx HB hx120_1
   have HR120_1 := am hi120_1
   have HC120_1 := am hl120_1
   clear hi120_1 hl120_1
   replace p120 := eq_true p120
   replace q120 := eq_true q120
   go_wp2_with (first | ((with_reducible refine gate_callee (f := 60) rfl ?_); refine gl Try.func60 21 #[.agg #[.string ((rd_T38 l0_1 x6_1).f0), .slice A120_1 ((rd_T38 l0_1 x6_1).f1).length c120_1], .int .i64 a1] rfl rfl rfl ?_; (with_reducible refine (spec_l3Uses.calls k1 ((rd_T38 l0_1 x6_1).f0) _ _ ((rd_T38 l0_1 x6_1).f1) a1 t121 _ ?side1 ?side2 A6.out).mono ?_); (case side1 => exact zc (Kd.C_below HR120_1.out HB.out)); (case side2 => exact HC120_1.out); rintro e w8 ⟨rfl, hb⟩; refine ⟨_, rfl, ?_⟩; replace BK119 := am (blk_below (zk BK119) hb); replace HB := am (below_step (zb HB) hb); (try clear hb); (try clear hb2); (try clear hk); (try clear hi)))
   go_roundg k1
   case measure => have := HK1.out; omega
   case rel => exact ⟨(wrap64 (x5_1 + t121)), (wrap64 (x6_1 + 1)), ze, ze, H', ⟨by have := HK1.out; omega⟩, ⟨zk BK119⟩, ⟨zb HB⟩⟩
end Go.Proofs.Ytooamacekmjpaaa.PFnPoolOnce
