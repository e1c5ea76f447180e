/- The walk: each function that the law comes to as a plain Lean function, and a proof that the Go code answers so. Written by this session's program over the kit's printer. -/
import Derived.Test.YtooamacekmjpaaaZ
import Derived.Test.YtooamacekmjpaaaQFnReadOnly0
import Derived.Test.YtooamacekmjpaaaQFnReadOnly1
import Derived.Test.YtooamacekmjpaaaQFnReadOnly4
namespace Go.Proofs.Ytooamacekmjpaaa.PFnReadOnly
open Go.RowKit Go.Proofs.YtooamacekmjpaaaW.PrintWords Go.Proofs.YtooamacekmjpaaaW.PrintLast Go.Proofs.YtooamacekmjpaaaW.PrintMore
attribute [local go_sem] max2_int min2_int max_two min_two max_three min_three max_four min_four   -- for this text's walks alone
set_option linter.unusedVariables false
set_option linter.unusedSimpArgs false
/-! ### spec_l11At: function 57 -/
def spec_l11At.l0 : Nat → ByteArray → Int → List (S55) → List (S38) → Option (Int)
 | 0, _, _, _, _ => none
 | k + 1, x1, x5, x131000, x131001 => if x5 < (x131001.length : Int) then (if 0 ≤ x5 then (if ((rd_T38 x131001 x5).f0).toList = x1.toList then (some x5) else (spec_l11At.l0 k x1 (wrap64 (x5 + 1)) x131000 x131001)) else (none)) else (some (-1))
def spec_l11At.f (k : Nat) (l0_0 : List (S55)) (l0_1 : List (S38)) (a1 : ByteArray) : Option (Int) := spec_l11At.l0 k a1 0 l0_0 l0_1
theorem spec_l11At.mono_l : ∀ k, (∀ y0 y1 y2 y3, LeO (spec_l11At.l0 k y0 y1 y2 y3) (spec_l11At.l0 (k + 1) y0 y1 y2 y3))
 | 0 => fun _ _ _ _ r h => by simp [spec_l11At.l0] at h
 | k + 1 => by
  have ih0 := spec_l11At.mono_l k
  intro y0 y1 y2 y3
  unfold spec_l11At.l0
  exact mo1 ih0
theorem spec_l11At.mono : ∀ a0 a1 a2 k, LeO (spec_l11At.f k a0 a1 a2) (spec_l11At.f (k + 1) a0 a1 a2) := by
 intro a0 a1 a2 k
 have ih0 := spec_l11At.mono_l k
 unfold spec_l11At.f
 exact mo1 ih0
set_option maxHeartbeats 8000000 in
set_option maxRecDepth 100000 in
theorem spec_l11At.calls (k : Nat) (A0_0 : Option Addr) (c0_0 : Nat) (l0_0 : List (S55)) (A0_1 : Option Addr) (c0_1 : Nat) (l0_1 : List (S38)) (a1 : ByteArray) (r : Int) (w : World) (hr0_0 : Kd.C k55 w A0_0 l0_0.length l0_0) (hc0_0 : l0_0.length ≤ c0_0) (hr0_1 : Kd.C k38 w A0_1 l0_1.length l0_1) (hc0_1 : l0_1.length ≤ c0_1) (h : spec_l11At.f k l0_0 l0_1 a1 = some r) :
 Calls Try.prog 57 #[.agg #[.slice A0_0 l0_0.length c0_0, .slice A0_1 l0_1.length c0_1], .string a1] w fun e w' => e = .returned (.int .i64 r) ∧ Below w.heap.size w w' := by
 have hu31 := Try.underlying31
 have HR0_0 := am hr0_0
 have HC0_0 := am hc0_0
 clear hr0_0 hc0_0
 have HR0_1 := am hr0_1
 have HC0_1 := am hc0_1
 clear hr0_1 hc0_1
 have HB := am (Below.refl w.heap.size w)
 have H : (spec_l11At.l0 k a1 0 l0_0 l0_1) = some r := h
 clear h
 have H' := am H
 clear H
 go_enter Try.func57, Try.ntmps57
 go_wp2_with (first | ((with_reducible refine gate_dst (N := 2) rfl ?_); refine bx 31 #[.slice A0_0 l0_0.length c0_0, .slice A0_1 l0_1.length c0_1] ?_; intro gb130 hg w3 hbox hb; have BK130 := am (hbox); have GW130 := am (zn hg (zb HB)); have GE130 := am (zn hg (zb HB)); replace HB := am (below_step (zb HB) hb); clear hb hbox hg))
 go_loopg [5] k (fun kq v5 w' => ∃ (x5_1 : Int), v5 = .int .i64 x5_1 ∧ Aside0 (spec_l11At.l0 kq a1 x5_1 l0_0 l0_1 = some r) ∧ Aside0 (kq ≤ k) ∧ Aside0 (w'.heap[gb130]? = some (.cells #[(.slice A0_0 l0_0.length c0_0), (.slice A0_1 l0_1.length c0_1)] 31 (0, 0))) ∧ Aside0 (Below w.heap.size w w'))
 case atStart => exact ⟨(0), ze, H', ⟨Nat.le_refl _⟩, ⟨zk BK130⟩, ⟨zb HB⟩⟩
 case round =>
  clear H'
  try clear p2
  obtain ⟨x5_1, rfl, HA, HK1, BK130, HB⟩ := hrel
  cases gk with
  | zero => exact absurd HA.out (by simp [spec_l11At.l0])
  | succ k1 =>
   have H := HA.out
   clear HA
   simp only [spec_l11At.l0] at H
   by_cases c4 : x5_1 < (l0_1.length : Int)
   rotate_left
   · rw [if_neg c4] at H
     have c4b0 : decide (x5_1 < (l0_1.length : Int)) = false := decide_eq_false c4
     clear c4
     obtain rfl := Option.some.inj H
     have hcz9_0 := ce0 BK130
     have hcz9_1 := ce1 BK130
     have hfz9_0 := bfz BK130 0
     have hfz9_1 := bfz BK130 1
     go_wp2
     go_ret
     exact ⟨zv, (zb HB)⟩
   rw [if_pos c4] at H
   have c4b0 : decide (x5_1 < (l0_1.length : Int)) = true := decide_eq_true c4
   clear c4
   by_cases c5 : 0 ≤ x5_1
   rotate_left
   · rw [if_neg c5] at H
     exact absurd H (by simp)
   rw [if_pos c5] at H
   have c5b0 : decide (0 ≤ x5_1) = true := decide_eq_true c5
   clear c5
   by_cases c6 : ((rd_T38 l0_1 x5_1).f0).toList = a1.toList
   · rw [if_pos c6] at H
     have c6b0 : (((rd_T38 l0_1 x5_1).f0).toList == a1.toList) = true := beq_iff_eq.mpr c6
     have c6b1 : (((rd_T38 l0_1 x5_1).f0).toList != a1.toList) = false := bne_eq_false_iff_eq.mpr c6
     clear c6
     obtain rfl := Option.some.inj H
     have hcz7_0 := ce0 BK130
     have hcz7_1 := ce1 BK130
     have hfz7_0 := bfz BK130 0
     have hfz7_1 := bfz BK130 1
     have p131 : 0 ≤ (x5_1 : Int) := of_decide_eq_true zl
     have q131 : x5_1 < (l0_1.length : Int) := of_decide_eq_true zl
     obtain ⟨ad131, A131_1, c131_1, e131, hx131_0, hx131_1, hl131_1, hi131_1⟩ := at_T38 HR0_1.out x5_1 p131 q131
     cases e131
     replace hx131_0 := hcx HB hx131_0
     replace hx131_1 := hcx HB hx131_1
     have HR131_1 := am hi131_1
     have HC131_1 := am hl131_1
     clear hi131_1 hl131_1
     replace p131 := eq_true p131
     replace q131 := eq_true q131
     go_wp2
     go_ret
     exact ⟨zv, (zb HB)⟩
   rw [if_neg c6] at H
   have c6b0 : (((rd_T38 l0_1 x5_1).f0).toList == a1.toList) = false := beq_eq_false_iff_ne.mpr c6
   have c6b1 : (((rd_T38 l0_1 x5_1).f0).toList != a1.toList) = true := bne_iff_ne.mpr c6
   have H' := am H
   clear H
   have hcz8_0 := ce0 BK130
   have hcz8_1 := ce1 BK130
   have hfz8_0 := bfz BK130 0
   have hfz8_1 := bfz BK130 1
   have p131 : 0 ≤ (x5_1 : Int) := of_decide_eq_true zl
   have q131 : x5_1 < (l0_1.length : Int) := of_decide_eq_true zl
   obtain ⟨ad131, A131_1, c131_1, e131, hx131_0, hx131_1, hl131_1, hi131_1⟩ := at_T38 HR0_1.out x5_1 p131 q131
   cases e131
   replace hx131_0 := hcx HB hx131_0
   replace hx131_1 := hcx HB hx131_1
   have HR131_1 := am hi131_1
   have HC131_1 := am hl131_1
   clear hi131_1 hl131_1
   replace p131 := eq_true p131
   replace q131 := eq_true q131
   go_wp2
   go_roundg k1
   case measure => have := HK1.out; omega
   case rel => exact ⟨(wrap64 (x5_1 + 1)), ze, H', ⟨by have := HK1.out; omega⟩, ⟨zk BK130⟩, ⟨zb HB⟩⟩
/-! ### spec_PoolRead: function 22 -/
def spec_PoolRead.j0 : Nat → Int → Int → Bool → List (S55) → List (S38) → Option (ByteArray × Bool)
 | 0, _, _, _, _, _ => none
 | k + 1, x2, x8, x32, x133000, x133001 => if x32 = true then (some ((⟨#[]⟩ : ByteArray), false)) else (if 0 ≤ x8 then (if x8 < (x133001.length : Int) then (if 0 ≤ x2 then (if x2 < (((rd_T38 x133001 x8).f1).length : Int) then (if (rd ((rd_T38 x133001 x8).f1) x2) = 0 then (some ((⟨#[]⟩ : ByteArray), true)) else (if 0 ≤ (wrap64 ((rd ((rd_T38 x133001 x8).f1) x2) - 1)) then (if (wrap64 ((rd ((rd_T38 x133001 x8).f1) x2) - 1)) < (x133000.length : Int) then (some ((rd_T55 x133000 (wrap64 ((rd ((rd_T38 x133001 x8).f1) x2) - 1))).f0, true)) else (none)) else (none))) else (none)) else (none)) else (none)) else (none))
def spec_PoolRead.f (k : Nat) (l0_0 : List (S55)) (l0_1 : List (S38)) (a1 : ByteArray) (a2 : Int) : Option (ByteArray × Bool) := (spec_l11At.f k l0_0 l0_1 a1).bind fun t133 => ((spec_PoolOk.f k l0_0 l0_1).bind fun t134 => (if t134 = true then (if t133 < 0 then (spec_PoolRead.j0 k a2 t133 true l0_0 l0_1) else (if 0 ≤ t133 then (if t133 < (l0_1.length : Int) then ((spec_l6In.f a2 0 (wrap64 ((((rd_T38 l0_1 t133).f1).length : Int) - 1))).bind fun t136 => (spec_PoolRead.j0 k a2 t133 (!t136) l0_0 l0_1)) else (none)) else (none))) else (spec_PoolRead.j0 k a2 t133 true l0_0 l0_1)))
theorem spec_PoolRead.mono_l : ∀ k, (∀ y0 y1 y2 y3 y4, LeO (spec_PoolRead.j0 k y0 y1 y2 y3 y4) (spec_PoolRead.j0 (k + 1) y0 y1 y2 y3 y4))
 | 0 => fun _ _ _ _ _ r h => by simp [spec_PoolRead.j0] at h
 | k + 1 => by
  have ih0 := spec_PoolRead.mono_l k
  intro y0 y1 y2 y3 y4
  unfold spec_PoolRead.j0
  exact mo3 ih0 @spec_PoolOk.mono @spec_l11At.mono
theorem spec_PoolRead.mono : ∀ a0 a1 a2 a3 k, LeO (spec_PoolRead.f k a0 a1 a2 a3) (spec_PoolRead.f (k + 1) a0 a1 a2 a3) := by
 intro a0 a1 a2 a3 k
 have ih0 := spec_PoolRead.mono_l k
 unfold spec_PoolRead.f
 exact mo3 ih0 @spec_PoolOk.mono @spec_l11At.mono
set_option maxHeartbeats 8000000 in
set_option maxRecDepth 100000 in
theorem spec_PoolRead.calls (k : Nat) (A0_0 : Option Addr) (c0_0 : Nat) (l0_0 : List (S55)) (A0_1 : Option Addr) (c0_1 : Nat) (l0_1 : List (S38)) (a1 : ByteArray) (a2 : Int) (r1 : ByteArray) (r2 : Bool) (w : World) (hr0_0 : Kd.C k55 w A0_0 l0_0.length l0_0) (hc0_0 : l0_0.length ≤ c0_0) (hr0_1 : Kd.C k38 w A0_1 l0_1.length l0_1) (hc0_1 : l0_1.length ≤ c0_1) (h : spec_PoolRead.f k l0_0 l0_1 a1 a2 = some (r1, r2)) :
 Calls Try.prog 22 #[.agg #[.slice A0_0 l0_0.length c0_0, .slice A0_1 l0_1.length c0_1], .string a1, .int .i64 a2] w fun e w' => e = .returned (.tuple #[.string r1, .bool r2]) ∧ Below w.heap.size w w' := by
 have hu31 := Try.underlying31
 have HR0_0 := am hr0_0
 have HC0_0 := am hc0_0
 clear hr0_0 hc0_0
 have HR0_1 := am hr0_1
 have HC0_1 := am hc0_1
 clear hr0_1 hc0_1
 have HB := am (Below.refl w.heap.size w)
 have H : ((spec_l11At.f k l0_0 l0_1 a1).bind fun t133 => ((spec_PoolOk.f k l0_0 l0_1).bind fun t134 => (if t134 = true then (if t133 < 0 then (spec_PoolRead.j0 k a2 t133 true l0_0 l0_1) else (if 0 ≤ t133 then (if t133 < (l0_1.length : Int) then ((spec_l6In.f a2 0 (wrap64 ((((rd_T38 l0_1 t133).f1).length : Int) - 1))).bind fun t136 => (spec_PoolRead.j0 k a2 t133 (!t136) l0_0 l0_1)) else (none)) else (none))) else (spec_PoolRead.j0 k a2 t133 true l0_0 l0_1)))) = some (r1, r2) := h
 clear h
 replace H := obs H
 obtain ⟨t133, A40, H⟩ := H
 replace H : ((spec_PoolOk.f k l0_0 l0_1).bind fun t134 => (if t134 = true then (if t133 < 0 then (spec_PoolRead.j0 k a2 t133 true l0_0 l0_1) else (if 0 ≤ t133 then (if t133 < (l0_1.length : Int) then ((spec_l6In.f a2 0 (wrap64 ((((rd_T38 l0_1 t133).f1).length : Int) - 1))).bind fun t136 => (spec_PoolRead.j0 k a2 t133 (!t136) l0_0 l0_1)) else (none)) else (none))) else (spec_PoolRead.j0 k a2 t133 true l0_0 l0_1))) = some (r1, r2) := H
 have A4 := am A40
 clear A40
 have HC5 := am H
 clear H
 go_enter Try.func22, Try.ntmps22
 go_upto_region 2 with (first | ((with_reducible refine gate_dst (N := 3) rfl ?_); (try (refine gate_guard (by rfl) ?_; dsimp only)); refine bx 31 #[.slice A0_0 l0_0.length c0_0, .slice A0_1 l0_1.length c0_1] ?_; intro gb132 hg w6 hbox hb; have BK132 := am (hbox); have GW132 := am (zn hg (zb HB)); have GE132 := am (zn hg (zb HB)); replace HB := am (below_step (zb HB) hb); clear hb hbox hg; have hcz7_0 := ce0 BK132; have hcz7_1 := ce1 BK132; have hfz7_0 := bfz BK132 0; have hfz7_1 := bfz BK132 1) | ((with_reducible refine gate_callee (f := 57) rfl ?_); refine gl Try.func57 12 #[.agg #[.slice A0_0 l0_0.length c0_0, .slice A0_1 l0_1.length c0_1], .string a1] rfl rfl rfl ?_; (with_reducible refine (spec_l11At.calls k _ _ l0_0 _ _ l0_1 a1 t133 _ ?side1 ?side2 ?side3 ?side4 A4.out).mono ?_); (case side1 => exact zc (Kd.C_below HR0_0.out HB.out)); (case side2 => exact HC0_0.out); (case side3 => exact zc (Kd.C_below HR0_1.out HB.out)); (case side4 => exact HC0_1.out); rintro e w8 ⟨rfl, hb⟩; refine ⟨_, rfl, ?_⟩; replace BK132 := am (blk_below (zk BK132) hb); replace HB := am (below_step (zb HB) hb); (try clear hb); (try clear hb2); (try clear hk); (try clear hi)))
 (try simp only [Act.put, List.setIfInBounds_toArray, List.set_cons_zero, List.set_cons_succ])
 go_cut [32] (fun v32 wc => ∃ (kq : Nat) (x32_4 : Bool), v32 = .bool x32_4 ∧ Aside0 (spec_PoolRead.j0 kq a2 t133 x32_4 l0_0 l0_1 = some (r1, r2)) ∧ Aside0 (kq ≤ k) ∧ Aside0 (wc.heap[gb132]? = some (.cells #[(.slice A0_0 l0_0.length c0_0), (.slice A0_1 l0_1.length c0_1)] 31 (0, 0))) ∧ Aside0 (Below w.heap.size w wc))
 case first =>
  have H := HC5.out
  clear HC5
  replace H := obs H
  obtain ⟨t134, A90, H⟩ := H
  replace H : (if t134 = true then (if t133 < 0 then (spec_PoolRead.j0 k a2 t133 true l0_0 l0_1) else (if 0 ≤ t133 then (if t133 < (l0_1.length : Int) then ((spec_l6In.f a2 0 (wrap64 ((((rd_T38 l0_1 t133).f1).length : Int) - 1))).bind fun t136 => (spec_PoolRead.j0 k a2 t133 (!t136) l0_0 l0_1)) else (none)) else (none))) else (spec_PoolRead.j0 k a2 t133 true l0_0 l0_1)) = some (r1, r2) := H
  have A9 := am A90
  clear A90
  by_cases c10 : t134 = true
  rotate_left
  · replace c10 := Bool.eq_false_iff.mpr c10
    subst c10
    have H1 : (spec_PoolRead.j0 k a2 t133 true l0_0 l0_1) = some (r1, r2) := by rw [if_neg (show ¬ (false = true) by decide)] at H; exact H
    clear H
    have H := H1
    clear H1
    have H' := am H
    clear H
    have hcz20_0 := ce0 BK132
    have hcz20_1 := ce1 BK132
    have hfz20_0 := bfz BK132 0
    have hfz20_1 := bfz BK132 1
    go_wp2_with (first | ((with_reducible refine gate_callee (f := 15) rfl ?_); refine gl Try.func15 14 #[.agg #[.slice A0_0 l0_0.length c0_0, .slice A0_1 l0_1.length c0_1]] rfl rfl rfl ?_; (with_reducible refine (spec_PoolOk.calls k _ _ l0_0 _ _ l0_1 false _ ?side1 ?side2 ?side3 ?side4 A9.out).mono ?_); (case side1 => exact zc (Kd.C_below HR0_0.out HB.out)); (case side2 => exact HC0_0.out); (case side3 => exact zc (Kd.C_below HR0_1.out HB.out)); (case side4 => exact HC0_1.out); rintro e w21 ⟨rfl, hb⟩; refine ⟨_, rfl, ?_⟩; replace BK132 := am (blk_below (zk BK132) hb); replace HB := am (below_step (zb HB) hb); (try clear hb); (try clear hb2); (try clear hk); (try clear hi)))
    go_meet
    case rel => exact ⟨_, (true), ze, H', ⟨by first | omega | exact Nat.le_refl _⟩, ⟨zk BK132⟩, ⟨zb HB⟩⟩
  subst c10
  have H1 : (if t133 < 0 then (spec_PoolRead.j0 k a2 t133 true l0_0 l0_1) else (if 0 ≤ t133 then (if t133 < (l0_1.length : Int) then ((spec_l6In.f a2 0 (wrap64 ((((rd_T38 l0_1 t133).f1).length : Int) - 1))).bind fun t136 => (spec_PoolRead.j0 k a2 t133 (!t136) l0_0 l0_1)) else (none)) else (none))) = some (r1, r2) := by rw [if_pos rfl] at H; exact H
  clear H
  have H := H1
  clear H1
  by_cases c11 : t133 < 0
  · rw [if_pos c11] at H
    have c11b0 : decide (t133 < 0) = true := decide_eq_true c11
    clear c11
    (first | rw [c11b0] | (simp only [i64_w, i32_w]; rw [c11b0]) | skip)
    have H' := am H
    clear H
    have hcz12_0 := ce0 BK132
    have hcz12_1 := ce1 BK132
    have hfz12_0 := bfz BK132 0
    have hfz12_1 := bfz BK132 1
    go_wp2_with (first | ((with_reducible refine gate_callee (f := 15) rfl ?_); refine gl Try.func15 14 #[.agg #[.slice A0_0 l0_0.length c0_0, .slice A0_1 l0_1.length c0_1]] rfl rfl rfl ?_; (with_reducible refine (spec_PoolOk.calls k _ _ l0_0 _ _ l0_1 true _ ?side1 ?side2 ?side3 ?side4 A9.out).mono ?_); (case side1 => exact zc (Kd.C_below HR0_0.out HB.out)); (case side2 => exact HC0_0.out); (case side3 => exact zc (Kd.C_below HR0_1.out HB.out)); (case side4 => exact HC0_1.out); rintro e w13 ⟨rfl, hb⟩; refine ⟨_, rfl, ?_⟩; replace BK132 := am (blk_below (zk BK132) hb); replace HB := am (below_step (zb HB) hb); (try clear hb); (try clear hb2); (try clear hk); (try clear hi)))
    go_meet
    case rel => exact ⟨_, (true), ze, H', ⟨by first | omega | exact Nat.le_refl _⟩, ⟨zk BK132⟩, ⟨zb HB⟩⟩
  rw [if_neg c11] at H
  have c11b0 : decide (t133 < 0) = false := decide_eq_false c11
  clear c11
  (first | rw [c11b0] | (simp only [i64_w, i32_w]; rw [c11b0]) | skip)
  by_cases c14 : 0 ≤ t133
  rotate_left
  · rw [if_neg c14] at H
    exact absurd H (by simp)
  rw [if_pos c14] at H
  have c14b0 : decide (0 ≤ t133) = true := decide_eq_true c14
  clear c14
  by_cases c15 : t133 < (l0_1.length : Int)
  rotate_left
  · rw [if_neg c15] at H
    exact absurd H (by simp)
  rw [if_pos c15] at H
  have c15b0 : decide (t133 < (l0_1.length : Int)) = true := decide_eq_true c15
  clear c15
  replace H := obs H
  obtain ⟨t136, A160, H⟩ := H
  replace H : (spec_PoolRead.j0 k a2 t133 (!t136) l0_0 l0_1) = some (r1, r2) := H
  have A16 := am A160
  clear A160
  have H' := am H
  clear H
  have hcz17_0 := ce0 BK132
  have hcz17_1 := ce1 BK132
  have hfz17_0 := bfz BK132 0
  have hfz17_1 := bfz BK132 1
  go_wp2_with (first | ((with_reducible refine gate_callee (f := 15) rfl ?_); refine gl Try.func15 14 #[.agg #[.slice A0_0 l0_0.length c0_0, .slice A0_1 l0_1.length c0_1]] rfl rfl rfl ?_; (with_reducible refine (spec_PoolOk.calls k _ _ l0_0 _ _ l0_1 true _ ?side1 ?side2 ?side3 ?side4 A9.out).mono ?_); (case side1 => exact zc (Kd.C_below HR0_0.out HB.out)); (case side2 => exact HC0_0.out); (case side3 => exact zc (Kd.C_below HR0_1.out HB.out)); (case side4 => exact HC0_1.out); rintro e w18 ⟨rfl, hb⟩; refine ⟨_, rfl, ?_⟩; replace BK132 := am (blk_below (zk BK132) hb); replace HB := am (below_step (zb HB) hb); (try clear hb); (try clear hb2); (try clear hk); (try clear hi); have hcz19_0 := ce0 BK132; have hcz19_1 := ce1 BK132; have hfz19_0 := bfz BK132 0; have hfz19_1 := bfz BK132 1; have p135 : 0 ≤ (t133 : Int) := of_decide_eq_true zl; have q135 : t133 < (l0_1.length : Int) := of_decide_eq_true zl; obtain ⟨ad135, A135_1, c135_1, e135, hx135_0, hx135_1, hl135_1, hi135_1⟩ := at_T38 HR0_1.out t133 p135 q135; cases e135; replace hx135_0 := hcx HB hx135_0; replace hx135_1 := hcx HB hx135_1; have HR135_1 := am hi135_1; have HC135_1 := am hl135_1; clear hi135_1 hl135_1; replace p135 := eq_true p135; replace q135 := eq_true q135) | (go_at_call 55; (with_reducible refine (spec_l6In.calls a2 0 (wrap64 ((((rd_T38 l0_1 t133).f1).length : Int) - 1)) t136 _ A16.out).mono ?_); rintro e w' ⟨rfl, ⟨nd, rfl⟩⟩))
  go_meet
  case rel => exact ⟨_, (!t136), ze, H', ⟨by first | omega | exact Nat.le_refl _⟩, ⟨zk BK132⟩, ⟨zb HB⟩⟩
 clear HC5
 try clear c1
 try clear p1
 try clear q1
 try clear hx1
 try clear c2
 try clear p2
 try clear c5
 try clear p6
 try clear c10
 try clear c11
 try clear c11b0
 try clear c13
 try clear p13
 try clear q13
 try clear hx13
 try clear c14
 try clear c14b0
 try clear c15
 try clear c15b0
 try clear hcz12_0
 try clear hcz12_1
 try clear hcz17_0
 try clear hcz17_1
 try clear hcz19_0
 try clear hcz19_1
 try clear hcz20_0
 try clear hcz20_1
 try clear hcz7_0
 try clear hcz7_1
 try clear hfz12_0
 try clear hfz12_1
 try clear hfz17_0
 try clear hfz17_1
 try clear hfz19_0
 try clear hfz19_1
 try clear hfz20_0
 try clear hfz20_1
 try clear hfz7_0
 try clear hfz7_1
 try clear hx135_0
 try clear hx135_1
 try clear p135
 try clear q135
 obtain ⟨kq, x32_4, rfl, HA, HJ4, BK132, HB⟩ := hcut
 cases kq with
 | zero => exact absurd HA.out (by simp [spec_PoolRead.j0])
 | succ kj4 =>
  have H := HA.out
  clear HA
  simp only [spec_PoolRead.j0] at H
  by_cases c22 : x32_4 = true
  · subst c22
    have H1 : (some ((⟨#[]⟩ : ByteArray), false)) = some (r1, r2) := by rw [if_pos rfl] at H; exact H
    clear H
    have H := H1
    clear H1
    simp only [Option.some.injEq, Prod.mk.injEq] at H
    obtain ⟨rfl, rfl⟩ := H
    go_wp2
    go_ret2
    exact ⟨zv, (zb HB)⟩
  replace c22 := Bool.eq_false_iff.mpr c22
  subst c22
  have H1 : (if 0 ≤ t133 then (if t133 < (l0_1.length : Int) then (if 0 ≤ a2 then (if a2 < (((rd_T38 l0_1 t133).f1).length : Int) then (if (rd ((rd_T38 l0_1 t133).f1) a2) = 0 then (some ((⟨#[]⟩ : ByteArray), true)) else (if 0 ≤ (wrap64 ((rd ((rd_T38 l0_1 t133).f1) a2) - 1)) then (if (wrap64 ((rd ((rd_T38 l0_1 t133).f1) a2) - 1)) < (l0_0.length : Int) then (some ((rd_T55 l0_0 (wrap64 ((rd ((rd_T38 l0_1 t133).f1) a2) - 1))).f0, true)) else (none)) else (none))) else (none)) else (none)) else (none)) else (none)) = some (r1, r2) := by rw [if_neg (show ¬ (false = true) by decide)] at H; exact H
  clear H
  have H := H1
  clear H1
  by_cases c23 : 0 ≤ t133
  rotate_left
  · rw [if_neg c23] at H
    exact absurd H (by simp)
  rw [if_pos c23] at H
  have c23b0 : decide (0 ≤ t133) = true := decide_eq_true c23
  clear c23
  by_cases c24 : t133 < (l0_1.length : Int)
  rotate_left
  · rw [if_neg c24] at H
    exact absurd H (by simp)
  rw [if_pos c24] at H
  have c24b0 : decide (t133 < (l0_1.length : Int)) = true := decide_eq_true c24
  clear c24
  by_cases c25 : 0 ≤ a2
  rotate_left
  · rw [if_neg c25] at H
    exact absurd H (by simp)
  rw [if_pos c25] at H
  have c25b0 : decide (0 ≤ a2) = true := decide_eq_true c25
  clear c25
  by_cases c26 : a2 < (((rd_T38 l0_1 t133).f1).length : Int)
  rotate_left
  · rw [if_neg c26] at H
    exact absurd H (by simp)
  rw [if_pos c26] at H
  have c26b0 : decide (a2 < (((rd_T38 l0_1 t133).f1).length : Int)) = true := decide_eq_true c26
  clear c26
  by_cases c27 : (rd ((rd_T38 l0_1 t133).f1) a2) = 0
  · rw [if_pos c27] at H
    have c27b0 : ((rd ((rd_T38 l0_1 t133).f1) a2) == 0) = true := beq_iff_eq.mpr c27
    have c27b1 : ((rd ((rd_T38 l0_1 t133).f1) a2) != 0) = false := bne_eq_false_iff_eq.mpr c27
    clear c27
    simp only [Option.some.injEq, Prod.mk.injEq] at H
    obtain ⟨rfl, rfl⟩ := H
    have hcz28_0 := ce0 BK132
    have hcz28_1 := ce1 BK132
    have hfz28_0 := bfz BK132 0
    have hfz28_1 := bfz BK132 1
    have p137 : 0 ≤ (t133 : Int) := of_decide_eq_true zl
    have q137 : t133 < (l0_1.length : Int) := of_decide_eq_true zl
    obtain ⟨ad137, A137_1, c137_1, e137, hx137_0, hx137_1, hl137_1, hi137_1⟩ := at_T38 HR0_1.out t133 p137 q137
    cases e137
    replace hx137_0 := hcx HB hx137_0
    replace hx137_1 := hcx HB hx137_1
    have HR137_1 := am hi137_1
    have HC137_1 := am hl137_1
    clear hi137_1 hl137_1
    replace p137 := eq_true p137
    replace q137 := eq_true q137
    have p138 : 0 ≤ (a2 : Int) := of_decide_eq_true zl
    have q138 : a2 < (((rd_T38 l0_1 t133).f1).length : Int) := of_decide_eq_true zl
    obtain ⟨ad138, e138, hx138_0⟩ := Kd.at_int HR137_1.out a2 p138 q138
    cases e138
    replace hx138_0 := hcx HB hx138_0
    replace p138 := eq_true p138
    replace q138 := eq_true q138
    go_wp2
    go_ret2
    exact ⟨zv, (zb HB)⟩
  rw [if_neg c27] at H
  have c27b0 : ((rd ((rd_T38 l0_1 t133).f1) a2) == 0) = false := beq_eq_false_iff_ne.mpr c27
  have c27b1 : ((rd ((rd_T38 l0_1 t133).f1) a2) != 0) = true := bne_iff_ne.mpr c27
  obtain ⟨ji29, hji29⟩ : ∃ j_ : Int, (wrap64 ((rd ((rd_T38 l0_1 t133).f1) a2) - 1)) = j_ := ⟨_, rfl⟩
  replace H : (if 0 ≤ (ji29) then (if (ji29) < (l0_0.length : Int) then (some ((rd_T55 l0_0 (ji29)).f0, true)) else (none)) else (none)) = some (r1, r2) := by first | (rw [hji29] at H; exact H) | (simp only [hji29] at H ⊢; exact H)
  have hji29w : (IntKind.i64.wrap ((rd ((rd_T38 l0_1 t133).f1) a2) - 1)) = ji29 := (i64_w _).trans hji29
  by_cases c30 : 0 ≤ (ji29)
  rotate_left
  · rw [if_neg c30] at H
    exact absurd H (by simp)
  rw [if_pos c30] at H
  have c30b0 : decide (0 ≤ (ji29)) = true := decide_eq_true c30
  clear c30
  by_cases c31 : (ji29) < (l0_0.length : Int)
  rotate_left
  · rw [if_neg c31] at H
    exact absurd H (by simp)
  rw [if_pos c31] at H
  have c31b0 : decide ((ji29) < (l0_0.length : Int)) = true := decide_eq_true c31
  clear c31
  simp only [Option.some.injEq, Prod.mk.injEq] at H
  obtain ⟨rfl, rfl⟩ := H
  have hcz32_0 := ce0 BK132
  have hcz32_1 := ce1 BK132
  have hfz32_0 := bfz BK132 0
  have hfz32_1 := bfz BK132 1
  have p137 : 0 ≤ (t133 : Int) := of_decide_eq_true zl
  have q137 : t133 < (l0_1.length : Int) := of_decide_eq_true zl
  obtain ⟨ad137, A137_1, c137_1, e137, hx137_0, hx137_1, hl137_1, hi137_1⟩ := at_T38 HR0_1.out t133 p137 q137
  cases e137
  replace hx137_0 := hcx HB hx137_0
  replace hx137_1 := hcx HB hx137_1
  have HR137_1 := am hi137_1
  have HC137_1 := am hl137_1
  clear hi137_1 hl137_1
  replace p137 := eq_true p137
  replace q137 := eq_true q137
  have p138 : 0 ≤ (a2 : Int) := of_decide_eq_true zl
  have q138 : a2 < (((rd_T38 l0_1 t133).f1).length : Int) := of_decide_eq_true zl
  obtain ⟨ad138, e138, hx138_0⟩ := Kd.at_int HR137_1.out a2 p138 q138
  cases e138
  replace hx138_0 := hcx HB hx138_0
  replace p138 := eq_true p138
  replace q138 := eq_true q138
  have p139 : 0 ≤ ((ji29) : Int) := of_decide_eq_true zl
  have q139 : (ji29) < (l0_0.length : Int) := of_decide_eq_true zl
  obtain ⟨ad139, e139, hx139_0, hx139_1⟩ := at_T55 HR0_0.out (ji29) p139 q139
  cases e139
  replace hx139_0 := hcx HB hx139_0
  replace hx139_1 := hcx HB hx139_1
  replace p139 := eq_true p139
  replace q139 := eq_true q139
  go_wp2
  go_ret2
  exact ⟨by first | rfl | (simp [errW_none, errW_some] <;> rfl) | (simp only [← hji29]; first | rfl | (simp [errW_none, errW_some] <;> rfl)) | (simp [*, errW_none, errW_some] <;> rfl), (zb HB)⟩
/-! ### impl_within: function 53 -/
def impl_within.f (a0 : Int) (a1 : Int) (a2 : Int) : Option (Bool) := if a0 ≥ a1 then (some (decide (a0 ≤ a2))) else (some false)
set_option maxHeartbeats 8000000 in
set_option maxRecDepth 100000 in
theorem impl_within.calls (a0 : Int) (a1 : Int) (a2 : Int) (r : Bool) (w : World) (h : impl_within.f a0 a1 a2 = some r) :
 Calls Try.prog 53 #[.int .i64 a0, .int .i64 a1, .int .i64 a2] w fun e w' => e = .returned (.bool r) ∧ Drawn0 w w' := by
 have H : (if a0 ≥ a1 then (some (decide (a0 ≤ a2))) else (some false)) = some r := h
 clear h
 by_cases c4 : a0 ≥ a1
 · rw [if_pos c4] at H
   have c4b0 : decide (a1 ≤ a0) = true := decide_eq_true c4
   clear c4
   obtain rfl := Option.some.inj H
   go_enter Try.func53, Try.ntmps53
   go_wp2
   go_ret
   exact ⟨by first | rfl | (simp; done) | (simp [*]; done), by repeat (first | exact Drawn0.refl _ | apply Drawn0.step)⟩
 rw [if_neg c4] at H
 have c4b0 : decide (a1 ≤ a0) = false := decide_eq_false c4
 clear c4
 obtain rfl := Option.some.inj H
 go_enter Try.func53, Try.ntmps53
 go_wp2
 go_ret
 exact ⟨by first | rfl | (simp; done) | (simp [*]; done), by repeat (first | exact Drawn0.refl _ | apply Drawn0.step)⟩
/-! ### impl_isName: function 54 -/
def impl_isName.f (a0 : ByteArray) : Option (Bool) := if a0.toList = ([65] : List UInt8) then (some true) else (if a0.toList = ([66] : List UInt8) then (some true) else (if a0.toList = ([67] : List UInt8) then (some true) else (some (a0.toList == ([68] : List UInt8)))))
set_option maxHeartbeats 8000000 in
set_option maxRecDepth 100000 in
theorem impl_isName.calls (a0 : ByteArray) (r : Bool) (w : World) (h : impl_isName.f a0 = some r) :
 Calls Try.prog 54 #[.string a0] w fun e w' => e = .returned (.bool r) ∧ Drawn0 w w' := by
 have H : (if a0.toList = ([65] : List UInt8) then (some true) else (if a0.toList = ([66] : List UInt8) then (some true) else (if a0.toList = ([67] : List UInt8) then (some true) else (some (a0.toList == ([68] : List UInt8)))))) = some r := h
 clear h
 by_cases c2 : a0.toList = ([65] : List UInt8)
 · rw [if_pos c2] at H
   have c2b0 : (a0.toList == ([65] : List UInt8)) = true := beq_iff_eq.mpr c2
   have c2b1 : (a0.toList != ([65] : List UInt8)) = false := bne_eq_false_iff_eq.mpr c2
   clear c2
   obtain rfl := Option.some.inj H
   go_enter Try.func54, Try.ntmps54
   go_wp2
   go_ret
   exact ⟨by first | rfl | (simp; done) | (simp [*]; done), by repeat (first | exact Drawn0.refl _ | apply Drawn0.step)⟩
 rw [if_neg c2] at H
 have c2b0 : (a0.toList == ([65] : List UInt8)) = false := beq_eq_false_iff_ne.mpr c2
 have c2b1 : (a0.toList != ([65] : List UInt8)) = true := bne_iff_ne.mpr c2
 by_cases c3 : a0.toList = ([66] : List UInt8)
 · rw [if_pos c3] at H
   have c3b0 : (a0.toList == ([66] : List UInt8)) = true := beq_iff_eq.mpr c3
   have c3b1 : (a0.toList != ([66] : List UInt8)) = false := bne_eq_false_iff_eq.mpr c3
   clear c3
   obtain rfl := Option.some.inj H
   go_enter Try.func54, Try.ntmps54
   go_wp2
   go_ret
   exact ⟨by first | rfl | (simp; done) | (simp [*]; done), by repeat (first | exact Drawn0.refl _ | apply Drawn0.step)⟩
 rw [if_neg c3] at H
 have c3b0 : (a0.toList == ([66] : List UInt8)) = false := beq_eq_false_iff_ne.mpr c3
 have c3b1 : (a0.toList != ([66] : List UInt8)) = true := bne_iff_ne.mpr c3
 by_cases c4 : a0.toList = ([67] : List UInt8)
 · rw [if_pos c4] at H
   have c4b0 : (a0.toList == ([67] : List UInt8)) = true := beq_iff_eq.mpr c4
   have c4b1 : (a0.toList != ([67] : List UInt8)) = false := bne_eq_false_iff_eq.mpr c4
   clear c4
   obtain rfl := Option.some.inj H
   go_enter Try.func54, Try.ntmps54
   go_wp2
   go_ret
   exact ⟨by first | rfl | (simp; done) | (simp [*]; done), by repeat (first | exact Drawn0.refl _ | apply Drawn0.step)⟩
 rw [if_neg c4] at H
 have c4b0 : (a0.toList == ([67] : List UInt8)) = false := beq_eq_false_iff_ne.mpr c4
 have c4b1 : (a0.toList != ([67] : List UInt8)) = true := bne_iff_ne.mpr c4
 obtain rfl := Option.some.inj H
 go_enter Try.func54, Try.ntmps54
 go_wp2
 go_ret
 exact ⟨by first | rfl | (simp; done) | (simp [*]; done), by repeat (first | exact Drawn0.refl _ | apply Drawn0.step)⟩
/-! ### impl_VolOk: function 20 -/
def impl_VolOk.l0 : Nat → List Int → Int → Int → ByteArray → List Int → Option (Bool)
 | 0, _, _, _, _, _ => none
 | k + 1, x6, x7, x8, x141000, x141001 => if x8 < x7 then (if 0 ≤ x8 then (if x8 < (x6.length : Int) then ((impl_within.f (rd x6 x8) 0 8).bind fun t142 => (if t142 = true then (impl_VolOk.l0 k x6 x7 (wrap64 (x8 + 1)) x141000 x141001) else (some false))) else (none)) else (none)) else ((impl_isName.f x141000).bind fun t143 => (if t143 = true then ((impl_within.f (x141001.length : Int) 1 6).bind fun t144 => (some t144)) else (some false)))
def impl_VolOk.f (k : Nat) (a0_0 : ByteArray) (l0_1 : List Int) : Option (Bool) := impl_VolOk.l0 k l0_1 (l0_1.length : Int) 0 a0_0 l0_1
theorem impl_VolOk.mono_l : ∀ k, (∀ y0 y1 y2 y3 y4, LeO (impl_VolOk.l0 k y0 y1 y2 y3 y4) (impl_VolOk.l0 (k + 1) y0 y1 y2 y3 y4))
 | 0 => fun _ _ _ _ _ r h => by simp [impl_VolOk.l0] at h
 | k + 1 => by
  have ih0 := impl_VolOk.mono_l k
  intro y0 y1 y2 y3 y4
  unfold impl_VolOk.l0
  exact mo1 ih0
theorem impl_VolOk.mono : ∀ a0 a1 k, LeO (impl_VolOk.f k a0 a1) (impl_VolOk.f (k + 1) a0 a1) := by
 intro a0 a1 k
 have ih0 := impl_VolOk.mono_l k
 unfold impl_VolOk.f
 exact mo1 ih0
set_option maxHeartbeats 8000000 in
set_option maxRecDepth 100000 in
theorem impl_VolOk.calls (k : Nat) (a0_0 : ByteArray) (A0_1 : Option Addr) (c0_1 : Nat) (l0_1 : List Int) (r : Bool) (w : World) (hr0_1 : Kd.C (Kd.int .i64) w A0_1 l0_1.length l0_1) (hc0_1 : l0_1.length ≤ c0_1) (h : impl_VolOk.f k a0_0 l0_1 = some r) :
 Calls Try.prog 20 #[.agg #[.string a0_0, .slice A0_1 l0_1.length c0_1]] w fun e w' => e = .returned (.bool r) ∧ Below w.heap.size w w' := by
 have hu38 := Try.underlying38
 have HR0_1 := am hr0_1
 have HC0_1 := am hc0_1
 clear hr0_1 hc0_1
 have HB := am (Below.refl w.heap.size w)
 have H : (impl_VolOk.l0 k l0_1 (l0_1.length : Int) 0 a0_0 l0_1) = some r := h
 clear h
 have H' := am H
 clear H
 go_enter Try.func20, Try.ntmps20
 go_wp2_with (first | ((with_reducible refine gate_dst (N := 1) rfl ?_); (try (refine gate_guard (by rfl) ?_; dsimp only)); refine bx 38 #[.string a0_0, .slice A0_1 l0_1.length c0_1] ?_; intro gb140 hg w2 hbox hb; have BK140 := am (hbox); have GW140 := am (zn hg (zb HB)); have GE140 := am (zn hg (zb HB)); replace HB := am (below_step (zb HB) hb); clear hb hbox hg; have hcz3_0 := ce0 BK140; have hcz3_1 := ce1 BK140; have hfz3_0 := bfz BK140 0; have hfz3_1 := bfz BK140 1))
 go_loopg [8] k (fun kq v8 w' => ∃ (x8_1 : Int), v8 = .int .i64 x8_1 ∧ Aside0 (impl_VolOk.l0 kq l0_1 (l0_1.length : Int) x8_1 a0_0 l0_1 = some r) ∧ Aside0 (kq ≤ k) ∧ Aside0 (w'.heap[gb140]? = some (.cells #[.string a0_0, (.slice A0_1 l0_1.length c0_1)] 38 (0, 0))) ∧ Aside0 (Below w.heap.size w w'))
 case atStart => exact ⟨(0), ze, H', ⟨Nat.le_refl _⟩, ⟨zk BK140⟩, ⟨zb HB⟩⟩
 case round =>
  clear H'
  try clear c2
  try clear p2
  try clear hcz3_0
  try clear hcz3_1
  try clear hfz3_0
  try clear hfz3_1
  obtain ⟨x8_1, rfl, HA, HK1, BK140, HB⟩ := hrel
  cases gk with
  | zero => exact absurd HA.out (by simp [impl_VolOk.l0])
  | succ k1 =>
   have H := HA.out
   clear HA
   simp only [impl_VolOk.l0] at H
   by_cases c4 : x8_1 < (l0_1.length : Int)
   rotate_left
   · rw [if_neg c4] at H
     have c4b0 : decide (x8_1 < (l0_1.length : Int)) = false := decide_eq_false c4
     clear c4
     replace H := obs H
     obtain ⟨t143, A90, H⟩ := H
     replace H : (if t143 = true then ((impl_within.f (l0_1.length : Int) 1 6).bind fun t144 => (some t144)) else (some false)) = some r := H
     have A9 := am A90
     clear A90
     by_cases c10 : t143 = true
     rotate_left
     · replace c10 := Bool.eq_false_iff.mpr c10
       subst c10
       have H1 : (some false) = some r := by rw [if_neg (show ¬ (false = true) by decide)] at H; exact H
       clear H
       have H := H1
       clear H1
       obtain rfl := Option.some.inj H
       have hcz13_0 := ce0 BK140
       have hcz13_1 := ce1 BK140
       have hfz13_0 := bfz BK140 0
       have hfz13_1 := bfz BK140 1
       go_wp2_with (first | ((with_reducible refine gate_callee (f := 54) rfl ?_); refine gl Try.func54 18 #[.string a0_0] rfl rfl rfl ?_; (with_reducible refine (impl_isName.calls a0_0 false _ A9.out).mono ?_); rintro e w' ⟨rfl, ⟨nd, rfl⟩⟩; refine ⟨_, rfl, ?_⟩))
       go_ret
       exact ⟨zv, (zb HB)⟩
     subst c10
     have H1 : ((impl_within.f (l0_1.length : Int) 1 6).bind fun t144 => (some t144)) = some r := by rw [if_pos rfl] at H; exact H
     clear H
     have H := H1
     clear H1
     replace H := obs H
     obtain ⟨t144, A110, H⟩ := H
     replace H : (some t144) = some r := H
     have A11 := am A110
     clear A110
     obtain rfl := Option.some.inj H
     have hcz12_0 := ce0 BK140
     have hcz12_1 := ce1 BK140
     have hfz12_0 := bfz BK140 0
     have hfz12_1 := bfz BK140 1
     go_wp2_with (first | ((with_reducible refine gate_callee (f := 54) rfl ?_); refine gl Try.func54 18 #[.string a0_0] rfl rfl rfl ?_; (with_reducible refine (impl_isName.calls a0_0 true _ A9.out).mono ?_); rintro e w' ⟨rfl, ⟨nd, rfl⟩⟩; refine ⟨_, rfl, ?_⟩) | (go_at_call 53; (with_reducible refine (impl_within.calls (l0_1.length : Int) 1 6 t144 _ A11.out).mono ?_); rintro e w' ⟨rfl, ⟨nd, rfl⟩⟩))
     go_ret
     exact ⟨zv, (zb HB)⟩
   rw [if_pos c4] at H
   have c4b0 : decide (x8_1 < (l0_1.length : Int)) = true := decide_eq_true c4
   clear c4
   by_cases c5 : 0 ≤ x8_1
   rotate_left
   · rw [if_neg c5] at H
     exact absurd H (by simp)
   rw [if_pos c5] at H
   have c5b0 : decide (0 ≤ x8_1) = true := decide_eq_true c5
   clear c5
   by_cases c6 : x8_1 < (l0_1.length : Int)
   rotate_left
   · rw [if_neg c6] at H
     exact absurd H (by simp)
   rw [if_pos c6] at H
   have c6b0 : decide (x8_1 < (l0_1.length : Int)) = true := decide_eq_true c6
   clear c6
   replace H := obs H
   obtain ⟨t142, A70, H⟩ := H
   replace H : (if t142 = true then (impl_VolOk.l0 k1 l0_1 (l0_1.length : Int) (wrap64 (x8_1 + 1)) a0_0 l0_1) else (some false)) = some r := H
   have A7 := am A70
   clear A70
   by_cases c8 : t142 = true
   · subst c8
     have H1 : (impl_VolOk.l0 k1 l0_1 (l0_1.length : Int) (wrap64 (x8_1 + 1)) a0_0 l0_1) = some r := by rw [if_pos rfl] at H; exact H
     clear H
     have H := H1
     clear H1
     have H' := am H
     clear H
     have p141 : 0 ≤ (x8_1 : Int) := of_decide_eq_true zl
     have q141 : x8_1 < (l0_1.length : Int) := of_decide_eq_true zl
     obtain ⟨ad141, e141, hx141_0⟩ := Kd.at_int HR0_1.out x8_1 p141 q141
     cases e141
     replace hx141_0 := hcx HB hx141_0
     replace p141 := eq_true p141
     replace q141 := eq_true q141
     go_wp2_with (first | ((with_reducible refine gate_callee (f := 53) rfl ?_); refine gl Try.func53 13 #[.int .i64 (rd l0_1 x8_1), .int .i64 0, .int .i64 8] rfl rfl rfl ?_; (with_reducible refine (impl_within.calls (rd l0_1 x8_1) 0 8 true _ A7.out).mono ?_); rintro e w' ⟨rfl, ⟨nd, rfl⟩⟩; refine ⟨_, rfl, ?_⟩))
     go_roundg k1
     case measure => have := HK1.out; omega
     case rel => exact ⟨(wrap64 (x8_1 + 1)), ze, H', ⟨by have := HK1.out; omega⟩, ⟨zk BK140⟩, ⟨zb HB⟩⟩
   replace c8 := Bool.eq_false_iff.mpr c8
   subst c8
   have H1 : (some false) = some r := by rw [if_neg (show ¬ (false = true) by decide)] at H; exact H
   clear H
   have H := H1
   clear H1
   obtain rfl := Option.some.inj H
   have p141 : 0 ≤ (x8_1 : Int) := of_decide_eq_true zl
   have q141 : x8_1 < (l0_1.length : Int) := of_decide_eq_true zl
   obtain ⟨ad141, e141, hx141_0⟩ := Kd.at_int HR0_1.out x8_1 p141 q141
   cases e141
   replace hx141_0 := hcx HB hx141_0
   replace p141 := eq_true p141
   replace q141 := eq_true q141
   go_wp2_with (first | ((with_reducible refine gate_callee (f := 53) rfl ?_); refine gl Try.func53 13 #[.int .i64 (rd l0_1 x8_1), .int .i64 0, .int .i64 8] rfl rfl rfl ?_; (with_reducible refine (impl_within.calls (rd l0_1 x8_1) 0 8 false _ A7.out).mono ?_); rintro e w' ⟨rfl, ⟨nd, rfl⟩⟩; refine ⟨_, rfl, ?_⟩))
   go_ret
   exact ⟨zv, (zb HB)⟩
/-! ### impl_TextOk: function 68 -/
def impl_TextOk.l0 : Nat → ByteArray → Int → Int → Option (Bool)
 | 0, _, _, _ => none
 | k + 1, x0, x5, x6 => if x6 < x5 then (if 0 ≤ x6 then (if x6 < (x0.size : Int) then ((impl_within.f (wrap64 (bt x0 x6)) 97 100).bind fun t145 => (if t145 = true then (impl_TextOk.l0 k x0 x5 (wrap64 (x6 + 1))) else (some false))) else (none)) else (none)) else (some (decide ((x0.size : Int) ≤ 4)))
def impl_TextOk.f (k : Nat) (a0 : ByteArray) : Option (Bool) := impl_TextOk.l0 k a0 (a0.size : Int) 0
theorem impl_TextOk.mono_l : ∀ k, (∀ y0 y1 y2, LeO (impl_TextOk.l0 k y0 y1 y2) (impl_TextOk.l0 (k + 1) y0 y1 y2))
 | 0 => fun _ _ _ r h => by simp [impl_TextOk.l0] at h
 | k + 1 => by
  have ih0 := impl_TextOk.mono_l k
  intro y0 y1 y2
  unfold impl_TextOk.l0
  exact mo1 ih0
theorem impl_TextOk.mono : ∀ a0 k, LeO (impl_TextOk.f k a0) (impl_TextOk.f (k + 1) a0) := by
 intro a0 k
 have ih0 := impl_TextOk.mono_l k
 unfold impl_TextOk.f
 exact mo1 ih0
set_option maxHeartbeats 8000000 in
set_option maxRecDepth 100000 in
theorem impl_TextOk.calls (k : Nat) (a0 : ByteArray) (r : Bool) (w : World) (h : impl_TextOk.f k a0 = some r) :
 Calls Try.prog 68 #[.string a0] w fun e w' => e = .returned (.bool r) ∧ Drawn0 w w' := by
 have H : (impl_TextOk.l0 k a0 (a0.size : Int) 0) = some r := h
 clear h
 have H' := am H
 clear H
 go_enter Try.func68, Try.ntmps68
 go_wp2
 go_loopg [6] k (fun kq v6 w' => ∃ (x6_1 : Int), v6 = .int .i64 x6_1 ∧ Aside0 (impl_TextOk.l0 kq a0 (a0.size : Int) x6_1 = some r) ∧ Aside0 (kq ≤ k) ∧ Drawn0 w w')
 case atStart => exact ⟨(0), ze, H', ⟨Nat.le_refl _⟩, by repeat (first | exact Drawn0.refl _ | apply Drawn0.step)⟩
 case round =>
  clear H'
  obtain ⟨x6_1, rfl, HA, HK1, ⟨m1, rfl⟩⟩ := hrel
  cases gk with
  | zero => exact absurd HA.out (by simp [impl_TextOk.l0])
  | succ k1 =>
   have H := HA.out
   clear HA
   simp only [impl_TextOk.l0] at H
   by_cases c2 : x6_1 < (a0.size : Int)
   rotate_left
   · rw [if_neg c2] at H
     have c2b0 : decide (x6_1 < (a0.size : Int)) = false := decide_eq_false c2
     clear c2
     obtain rfl := Option.some.inj H
     go_wp2
     go_ret
     exact ⟨by first | rfl | (simp; done) | (simp [*]; done), by repeat (first | exact Drawn0.refl _ | apply Drawn0.step)⟩
   rw [if_pos c2] at H
   have c2b0 : decide (x6_1 < (a0.size : Int)) = true := decide_eq_true c2
   clear c2
   by_cases c3 : 0 ≤ x6_1
   rotate_left
   · rw [if_neg c3] at H
     exact absurd H (by simp)
   rw [if_pos c3] at H
   have c3b0 : decide (0 ≤ x6_1) = true := decide_eq_true c3
   clear c3
   by_cases c4 : x6_1 < (a0.size : Int)
   rotate_left
   · rw [if_neg c4] at H
     exact absurd H (by simp)
   rw [if_pos c4] at H
   have c4b0 : decide (x6_1 < (a0.size : Int)) = true := decide_eq_true c4
   clear c4
   replace H := obs H
   obtain ⟨t145, A60, H⟩ := H
   replace H : (if t145 = true then (impl_TextOk.l0 k1 a0 (a0.size : Int) (wrap64 (x6_1 + 1))) else (some false)) = some r := H
   have A6 := am A60
   clear A60
   by_cases c7 : t145 = true
   · subst c7
     have H1 : (impl_TextOk.l0 k1 a0 (a0.size : Int) (wrap64 (x6_1 + 1))) = some r := by rw [if_pos rfl] at H; exact H
     clear H
     have H := H1
     clear H1
     have H' := am H
     clear H
     have p5 : 0 ≤ (x6_1 : Int) := of_decide_eq_true zl
     have q5 : x6_1 < (a0.size : Int) := of_decide_eq_true zl
     have hx5 := bt_at a0 x6_1
     replace p5 := eq_true p5
     replace q5 := eq_true q5
     go_wp2_with (first | ((with_reducible refine gate_callee (f := 53) rfl ?_); refine gl Try.func53 13 #[.int .i64 (wrap64 (bt a0 x6_1)), .int .i64 97, .int .i64 100] rfl rfl rfl ?_; (with_reducible refine (impl_within.calls (wrap64 (bt a0 x6_1)) 97 100 true _ A6.out).mono ?_); rintro e w' ⟨rfl, ⟨nd, rfl⟩⟩; refine ⟨_, rfl, ?_⟩))
     go_roundg k1
     case measure => have := HK1.out; omega
     case rel => exact ⟨(wrap64 (x6_1 + 1)), ze, H', ⟨by have := HK1.out; omega⟩, by repeat (first | exact Drawn0.refl _ | apply Drawn0.step)⟩
   replace c7 := Bool.eq_false_iff.mpr c7
   subst c7
   have H1 : (some false) = some r := by rw [if_neg (show ¬ (false = true) by decide)] at H; exact H
   clear H
   have H := H1
   clear H1
   obtain rfl := Option.some.inj H
   have p5 : 0 ≤ (x6_1 : Int) := of_decide_eq_true zl
   have q5 : x6_1 < (a0.size : Int) := of_decide_eq_true zl
   have hx5 := bt_at a0 x6_1
   replace p5 := eq_true p5
   replace q5 := eq_true q5
   go_wp2_with (first | ((with_reducible refine gate_callee (f := 53) rfl ?_); refine gl Try.func53 13 #[.int .i64 (wrap64 (bt a0 x6_1)), .int .i64 97, .int .i64 100] rfl rfl rfl ?_; (with_reducible refine (impl_within.calls (wrap64 (bt a0 x6_1)) 97 100 false _ A6.out).mono ?_); rintro e w' ⟨rfl, ⟨nd, rfl⟩⟩; refine ⟨_, rfl, ?_⟩))
   go_ret
   exact ⟨by first | rfl | (simp; done) | (simp [*]; done), by repeat (first | exact Drawn0.refl _ | apply Drawn0.step)⟩
/-! ### impl_Slot_77: function 77 -/
instance : Inhabited S55 := ⟨z55⟩
/-- A slot's two cells. -/
def encSlot (x : S55) : List Value := [.string x.f0, .int .i64 x.f1]
theorem slot_K {w : World} {x : S55} {cs : List Value} (h : (k55).K w x cs) : cs = encSlot x := by
 obtain ⟨c0, c1, rfl, h0, h1⟩ := h
 have e0 : c0 = [.string x.f0] := h0
 have e1 : c1 = [.int .i64 x.f1] := h1
 rw [e0, e1]
 rfl
/-- A row of slots that is read, cell by cell. -/
theorem slots_cells {w : World} {A : Option Addr} {l : List S55} (h : Kd.C k55 w A l.length l) (hn : 0 < l.length) :
 ∃ b off, A = some ⟨b, off, none⟩ ∧ b < w.heap.size ∧ ∀ j, j < l.length → ∀ i v, (encSlot l[j]!)[i]? = some v → w.cell? ⟨b, off + j * 2 + i, none⟩ = some v := by
 obtain ⟨ad, e, hc⟩ := h.2.2 hn
 have get : ∀ j, j < l.length → ∀ i v, (encSlot l[j]!)[i]? = some v → w.cell? (ad.add (j * 2 + i)) = some v := by
  intro j hj i v hi
  obtain ⟨c, hl, hk, hcell⟩ := hc j l[j]! (by rw [List.getElem?_eq_getElem hj]; simp [hj])
  rw [slot_K hk] at hcell
  exact hcell i v hi
 obtain ⟨b, off, spot⟩ := ad
 have h0 := get 0 hn 0 (.string (l[0]!).f0) rfl
 have hs : spot = none := by
  cases spot with
  | none => rfl
  | some q =>
   exfalso
   simp only [Nat.zero_mul, Nat.add_zero, Addr.add, if_pos] at h0
   unfold World.cell? at h0
   revert h0
   cases w.heap[b]? with
   | none => simp
   | some o => cases o <;> simp
 subst hs
 refine ⟨b, off, e, ?_, fun j hj i v hi => ?_⟩
 · have := World.block_lt_of_cell? w _ h0
   simpa [Addr.add_lit] using this
 have := get j hj i v hi
 rw [Addr.add_lit] at this
 rw [Nat.add_assoc]
 exact this
/-- slices.IndexFunc over slots, nil too, whatever predicate. -/
theorem idx_calls (p : S55 → Bool) (g : Nat) (lb : Array Value) (eg : ∀ args w, (callFunc g args).run Try.prog w = .ok (.enter g args) w) (A0 : Option Addr) (c0 : Nat) (l0 : List S55) (w : World)
 (hr0 : Kd.C k55 w A0 l0.length l0) (hp : PredBelow Try.prog g lb (fun x => .agg (encSlot x).toArray) p w) :
 Calls Try.prog 77 #[.slice A0 l0.length c0, .func (.func g) #[] lb] w fun e w' => e = .returned (.int .i64 (Lib.idxBy (fun _ y => p y) l0 default)) ∧ Below w.heap.size w w' := by
 by_cases hn : 0 < l0.length
 · obtain ⟨b, off, rfl, hb, hc⟩ := slots_cells hr0 hn
   have hcon := AnyQ.slices_IndexFunc Go.Proofs.YtooamacekmjpaaaH.idxLay 2 Try.isAgg55 Try.sizeOf55 encSlot (fun _ => rfl) p g lb eg b off l0.length c0 l0 w hp (Nat.le_refl _) hr0.2.1 hb hc
   rw [List.take_length] at hcon
   exact hcon
 obtain rfl : l0 = [] := List.eq_nil_of_length_eq_zero (by omega)
 clear hp hr0 hn
 go_enter Try.func77, Try.ntmps77
 go_wp2
 go_loopg [8] 0 (fun gg v8 w' => v8 = .int .i64 0 ∧ w' = w)
 case atStart => exact ⟨rfl, rfl⟩
 case round =>
  obtain ⟨rfl, rfl⟩ := hrel
  go_wp2
  go_ret
  exact ⟨rfl, Below.refl _ _⟩
/-! ### impl_Slot_69: function 69 -/
theorem con_calls (p : S55 → Bool) (g : Nat) (lb : Array Value) (eg : ∀ args w, (callFunc g args).run Try.prog w = .ok (.enter g args) w) (A0 : Option Addr) (c0 : Nat) (l0 : List S55) (w : World)
 (hr0 : Kd.C k55 w A0 l0.length l0) (hp : PredBelow Try.prog g lb (fun x => .agg (encSlot x).toArray) p w) :
 Calls Try.prog 69 #[.slice A0 l0.length c0, .func (.func g) #[] lb] w fun e w' => e = .returned (.bool (l0.any p)) ∧ Below w.heap.size w w' := by
 have hcon := idx_calls p g lb eg A0 c0 l0 w hr0 hp
 have hE := Lib.idxBy_nonneg_iff (fun _ y => p y) l0 default
 clear hp hr0
 generalize Lib.idxBy (fun _ y => p y) l0 default = x at hcon hE
 have HE := am hE
 clear hE
 go_enter Try.func69, Try.ntmps69
 go_wp2_with (go_at_call 77; refine hcon.mono ?_; rintro e w' ⟨rfl, hb'⟩)
 go_ret
 exact ⟨by rw [← HE.out]; rfl, hb'⟩
end Go.Proofs.Ytooamacekmjpaaa.PFnReadOnly
