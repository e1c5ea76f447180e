/- The walk: each function that the law comes to as a plain Lean function, and a proof that the Go code answers so. Written by this session's program over the kit's printer. -/
import Derived.Test.YtooamacekmjpaaaZ
import Derived.Test.YtooamacekmjpaaaQFnPoolText0
import Derived.Test.YtooamacekmjpaaaQFnPoolText1
import Derived.Test.YtooamacekmjpaaaQFnPoolText2
import Derived.Test.YtooamacekmjpaaaQFnPoolText4
namespace Go.Proofs.Ytooamacekmjpaaa.PFnPoolText
open Go.RowKit Go.Proofs.YtooamacekmjpaaaW.PrintWords Go.Proofs.YtooamacekmjpaaaW.PrintLast Go.Proofs.YtooamacekmjpaaaW.PrintMore
attribute [local go_sem] max2_int min2_int max_two min_two max_three min_three max_four min_four   -- for this text's walks alone
set_option linter.unusedVariables false
set_option linter.unusedSimpArgs false
/-! ### spec_VolText: function 31 -/
mutual
def spec_VolText.j0 : Nat → List (S55) → Bool → ByteArray → List Int → Option (ByteArray)
 | 0, _, _, _, _ => none
 | k + 1, x1, x14, x131000, x131001 => if x14 = true then (some (⟨#[]⟩ : ByteArray)) else (spec_VolText.l0 k x1 x131000 0 x131000 x131001)
def spec_VolText.l0 : Nat → List (S55) → ByteArray → Int → ByteArray → List Int → Option (ByteArray)
 | 0, _, _, _, _, _ => none
 | k + 1, x1, x5, x6, x131000, x131001 => if x6 < (x131001.length : Int) then (if x5.size + 1 ≤ 9223372036854775807 then (if 0 ≤ x6 then (if (rd x131001 x6) = 0 then (if (x5 ++ (⟨#[32]⟩ : ByteArray)).size + 1 ≤ 9223372036854775807 then (spec_VolText.l0 k x1 ((x5 ++ (⟨#[32]⟩ : ByteArray)) ++ (⟨#[45]⟩ : ByteArray)) (wrap64 (x6 + 1)) x131000 x131001) else (none)) else (if 0 ≤ (wrap64 ((rd x131001 x6) - 1)) then (if (wrap64 ((rd x131001 x6) - 1)) < (x1.length : Int) then (if ((rd_T55 x1 (wrap64 ((rd x131001 x6) - 1))).f1) = 0 then (if (x5 ++ (⟨#[32]⟩ : ByteArray)).size + 1 ≤ 9223372036854775807 then (spec_VolText.l0 k x1 ((x5 ++ (⟨#[32]⟩ : ByteArray)) ++ (⟨#[45]⟩ : ByteArray)) (wrap64 (x6 + 1)) x131000 x131001) else (none)) else (if (x5 ++ (⟨#[32]⟩ : ByteArray)).size + ((rd_T55 x1 (wrap64 ((rd x131001 x6) - 1))).f0).size ≤ 9223372036854775807 then (spec_VolText.l0 k x1 ((x5 ++ (⟨#[32]⟩ : ByteArray)) ++ ((rd_T55 x1 (wrap64 ((rd x131001 x6) - 1))).f0)) (wrap64 (x6 + 1)) x131000 x131001) else (none))) else (none)) else (none))) else (none)) else (none)) else (some x5)
end
def spec_VolText.f (k : Nat) (a0_0 : ByteArray) (l0_1 : List Int) (l1 : List (S55)) : Option (ByteArray) := (spec_VolOk.f k a0_0 l0_1).bind fun t131 => (if t131 = true then ((spec_StoreOk.f k l1).bind fun t132 => (spec_VolText.j0 k l1 (!t132) a0_0 l0_1)) else (spec_VolText.j0 k l1 true a0_0 l0_1))
theorem spec_VolText.mono_l : ∀ k, (∀ y0 y1 y2 y3, LeO (spec_VolText.j0 k y0 y1 y2 y3) (spec_VolText.j0 (k + 1) y0 y1 y2 y3)) ∧ (∀ y0 y1 y2 y3 y4, LeO (spec_VolText.l0 k y0 y1 y2 y3 y4) (spec_VolText.l0 (k + 1) y0 y1 y2 y3 y4))
 | 0 => ⟨fun _ _ _ _ r h => by simp [spec_VolText.j0] at h, fun _ _ _ _ _ r h => by simp [spec_VolText.l0] at h⟩
 | k + 1 => by
  obtain ⟨ih0, ih1⟩ := spec_VolText.mono_l k
  refine ⟨?_, ?_⟩
  · intro y0 y1 y2 y3
    unfold spec_VolText.j0
    exact mo4 ih0 ih1 @spec_StoreOk.mono @spec_VolOk.mono
  intro y0 y1 y2 y3 y4
  unfold spec_VolText.l0
  exact mo4 ih0 ih1 @spec_StoreOk.mono @spec_VolOk.mono
theorem spec_VolText.mono : ∀ a0 a1 a2 k, LeO (spec_VolText.f k a0 a1 a2) (spec_VolText.f (k + 1) a0 a1 a2) := by
 intro a0 a1 a2 k
 obtain ⟨ih0, ih1⟩ := spec_VolText.mono_l k
 unfold spec_VolText.f
 exact mo4 ih0 ih1 @spec_StoreOk.mono @spec_VolOk.mono
set_option maxHeartbeats 8000000 in
set_option maxRecDepth 100000 in
theorem spec_VolText.calls (k : Nat) (a0_0 : ByteArray) (A0_1 : Option Addr) (c0_1 : Nat) (l0_1 : List Int) (A1 : Option Addr) (c1 : Nat) (l1 : List (S55)) (r : ByteArray) (w : World) (hr0_1 : Kd.C (Kd.int .i64) w A0_1 l0_1.length l0_1) (hc0_1 : l0_1.length ≤ c0_1) (hr1 : Kd.C k55 w A1 l1.length l1) (hc1 : l1.length ≤ c1) (h : spec_VolText.f k a0_0 l0_1 l1 = some r) :
 Calls Try.prog 31 #[.agg #[.string a0_0, .slice A0_1 l0_1.length c0_1], .slice A1 l1.length c1] w fun e w' => e = .returned (.string r) ∧ Below w.heap.size w w' := by
 have hu38 := Try.underlying38
 have HR0_1 := am hr0_1
 have HC0_1 := am hc0_1
 clear hr0_1 hc0_1
 have HR1 := am hr1
 have HC1 := am hc1
 clear hr1 hc1
 have HB := am (Below.refl w.heap.size w)
 have H : ((spec_VolOk.f k a0_0 l0_1).bind fun t131 => (if t131 = true then ((spec_StoreOk.f k l1).bind fun t132 => (spec_VolText.j0 k l1 (!t132) a0_0 l0_1)) else (spec_VolText.j0 k l1 true a0_0 l0_1))) = some r := h
 clear h
 have HC3 := am H
 clear H
 go_enter Try.func31, Try.ntmps31
 go_upto_region 1 with (first | ((with_reducible refine gate_dst (N := 2) rfl ?_); refine bx 38 #[.string a0_0, .slice A0_1 l0_1.length c0_1] ?_; intro gb130 hg w4 hbox hb; have BK130 := am (hbox); have GW130 := am (zn hg (zb HB)); have GE130 := am (zn hg (zb HB)); replace HB := am (below_step (zb HB) hb); clear hb hbox hg))
 (try simp only [Act.put, List.setIfInBounds_toArray, List.set_cons_zero, List.set_cons_succ])
 go_cut [14] (fun v14 wc => ∃ (kq : Nat) (x14_2 : Bool), v14 = .bool x14_2 ∧ Aside0 (spec_VolText.j0 kq l1 x14_2 a0_0 l0_1 = some r) ∧ Aside0 (kq ≤ k) ∧ Aside0 (wc.heap[gb130]? = some (.cells #[.string a0_0, (.slice A0_1 l0_1.length c0_1)] 38 (0, 0))) ∧ Aside0 (Below w.heap.size w wc))
 case first =>
  have H := HC3.out
  clear HC3
  replace H := obs H
  obtain ⟨t131, A50, H⟩ := H
  replace H : (if t131 = true then ((spec_StoreOk.f k l1).bind fun t132 => (spec_VolText.j0 k l1 (!t132) a0_0 l0_1)) else (spec_VolText.j0 k l1 true a0_0 l0_1)) = some r := H
  have A5 := am A50
  clear A50
  by_cases c6 : t131 = true
  rotate_left
  · replace c6 := Bool.eq_false_iff.mpr c6
    subst c6
    have H1 : (spec_VolText.j0 k l1 true a0_0 l0_1) = some r := by rw [if_neg (show ¬ (false = true) by decide)] at H; exact H
    clear H
    have H := H1
    clear H1
    have H' := am H
    clear H
    have hcz11_0 := ce0 BK130
    have hcz11_1 := ce1 BK130
    have hfz11_0 := bfz BK130 0
    have hfz11_1 := bfz BK130 1
    go_wp2_with (first | ((with_reducible refine gate_callee (f := 21) rfl ?_); refine gl Try.func21 8 #[.agg #[.string a0_0, .slice A0_1 l0_1.length c0_1]] rfl rfl rfl ?_; (with_reducible refine (spec_VolOk.calls k a0_0 _ _ l0_1 false _ ?side1 ?side2 A5.out).mono ?_); (case side1 => exact zc (Kd.C_below HR0_1.out HB.out)); (case side2 => exact HC0_1.out); rintro e w12 ⟨rfl, hb⟩; refine ⟨_, rfl, ?_⟩; replace BK130 := am (blk_below (zk BK130) hb); replace HB := am (below_step (zb HB) hb); (try clear hb); (try clear hb2); (try clear hk); (try clear hi)))
    go_meet
    case rel => exact ⟨_, (true), ze, H', ⟨by first | omega | exact Nat.le_refl _⟩, ⟨zk BK130⟩, ⟨zb HB⟩⟩
  subst c6
  have H1 : ((spec_StoreOk.f k l1).bind fun t132 => (spec_VolText.j0 k l1 (!t132) a0_0 l0_1)) = some r := by rw [if_pos rfl] at H; exact H
  clear H
  have H := H1
  clear H1
  replace H := obs H
  obtain ⟨t132, A70, H⟩ := H
  replace H : (spec_VolText.j0 k l1 (!t132) a0_0 l0_1) = some r := H
  have A7 := am A70
  clear A70
  have H' := am H
  clear H
  have hcz8_0 := ce0 BK130
  have hcz8_1 := ce1 BK130
  have hfz8_0 := bfz BK130 0
  have hfz8_1 := bfz BK130 1
  go_wp2_with (first | ((with_reducible refine gate_callee (f := 21) rfl ?_); refine gl Try.func21 8 #[.agg #[.string a0_0, .slice A0_1 l0_1.length c0_1]] rfl rfl rfl ?_; (with_reducible refine (spec_VolOk.calls k a0_0 _ _ l0_1 true _ ?side1 ?side2 A5.out).mono ?_); (case side1 => exact zc (Kd.C_below HR0_1.out HB.out)); (case side2 => exact HC0_1.out); rintro e w9 ⟨rfl, hb⟩; refine ⟨_, rfl, ?_⟩; replace BK130 := am (blk_below (zk BK130) hb); replace HB := am (below_step (zb HB) hb); (try clear hb); (try clear hb2); (try clear hk); (try clear hi)) | (go_at_call 41; (with_reducible refine (spec_StoreOk.calls k _ _ l1 t132 _ ?side1 ?side2 A7.out).mono ?_); (case side1 => exact zc (Kd.C_below HR1.out HB.out)); (case side2 => exact HC1.out); rintro e w10 ⟨rfl, hb⟩; replace BK130 := am (blk_below (zk BK130) hb); replace HB := am (below_step (zb HB) hb); (try clear hb); (try clear hb2); (try clear hk); (try clear hi)))
  go_meet
  case rel => exact ⟨_, (!t132), ze, H', ⟨by first | omega | exact Nat.le_refl _⟩, ⟨zk BK130⟩, ⟨zb HB⟩⟩
 clear HC3
 try clear c1
 try clear c2
 try clear p2
 try clear c3
 try clear c6
 try clear hcz11_0
 try clear hcz11_1
 try clear hcz8_0
 try clear hcz8_1
 try clear hfz11_0
 try clear hfz11_1
 try clear hfz8_0
 try clear hfz8_1
 obtain ⟨kq, x14_2, rfl, HA, HJ2, BK130, HB⟩ := hcut
 cases kq with
 | zero => exact absurd HA.out (by simp [spec_VolText.j0])
 | succ kj2 =>
  have H := HA.out
  clear HA
  simp only [spec_VolText.j0] at H
  by_cases c13 : x14_2 = true
  · subst c13
    have H1 : (some (⟨#[]⟩ : ByteArray)) = some r := by rw [if_pos rfl] at H; exact H
    clear H
    have H := H1
    clear H1
    obtain rfl := Option.some.inj H
    go_wp2
    go_ret
    exact ⟨zv, (zb HB)⟩
  replace c13 := Bool.eq_false_iff.mpr c13
  subst c13
  have H1 : (spec_VolText.l0 kj2 l1 a0_0 0 a0_0 l0_1) = some r := by rw [if_neg (show ¬ (false = true) by decide)] at H; exact H
  clear H
  have H := H1
  clear H1
  have H' := am H
  clear H
  have hcz14_0 := ce0 BK130
  have hcz14_1 := ce1 BK130
  have hfz14_0 := bfz BK130 0
  have hfz14_1 := bfz BK130 1
  go_wp2
  go_loopg [5, 6] kj2 (fun kq v5 v6 w' => ∃ (x5_2 : ByteArray) (x6_2 : Int), v5 = .string x5_2 ∧ v6 = .int .i64 x6_2 ∧ Aside0 (spec_VolText.l0 kq l1 x5_2 x6_2 a0_0 l0_1 = some r) ∧ Aside0 (kq ≤ kj2) ∧ Aside0 (w'.heap[gb130]? = some (.cells #[.string a0_0, (.slice A0_1 l0_1.length c0_1)] 38 (0, 0))) ∧ Aside0 (Below w.heap.size w w'))
  case atStart => exact ⟨(a0_0), (0), ze, ze, H', ⟨Nat.le_refl _⟩, ⟨zk BK130⟩, ⟨zb HB⟩⟩
  case round =>
   clear H'
   try clear c1
   try clear c2
   try clear p2
   try clear c3
   try clear c6
   try clear c13
   try clear hcz11_0
   try clear hcz11_1
   try clear hcz14_0
   try clear hcz14_1
   try clear hcz8_0
   try clear hcz8_1
   try clear hfz11_0
   try clear hfz11_1
   try clear hfz14_0
   try clear hfz14_1
   try clear hfz8_0
   try clear hfz8_1
   try clear p2
   obtain ⟨x5_2, x6_2, rfl, rfl, HA, HK2, BK130, HB⟩ := hrel
   cases gk with
   | zero => exact absurd HA.out (by simp [spec_VolText.l0])
   | succ k2 =>
    have H := HA.out
    clear HA
    simp only [spec_VolText.l0] at H
    by_cases c15 : x6_2 < (l0_1.length : Int)
    rotate_left
    · rw [if_neg c15] at H
      have c15b0 : decide (x6_2 < (l0_1.length : Int)) = false := decide_eq_false c15
      clear c15
      obtain rfl := Option.some.inj H
      have hcz29_0 := ce0 BK130
      have hcz29_1 := ce1 BK130
      have hfz29_0 := bfz BK130 0
      have hfz29_1 := bfz BK130 1
      go_wp2
      go_ret
      exact ⟨zv, (zb HB)⟩
    rw [if_pos c15] at H
    have c15b0 : decide (x6_2 < (l0_1.length : Int)) = true := decide_eq_true c15
    clear c15
    by_cases c16 : x5_2.size + 1 ≤ 9223372036854775807
    rotate_left
    · rw [if_neg c16] at H
      exact absurd H (by simp)
    rw [if_pos c16] at H
    have c16b0 := eq_true c16
    have c16b1 : decide (x5_2.size + 1 ≤ 9223372036854775807) = true := decide_eq_true c16
    try have c16b2 : (9223372036854775807 < x5_2.size + 1) = False := eq_false (Nat.not_lt.2 c16)
    by_cases c17 : 0 ≤ x6_2
    rotate_left
    · rw [if_neg c17] at H
      exact absurd H (by simp)
    rw [if_pos c17] at H
    have c17b0 : decide (0 ≤ x6_2) = true := decide_eq_true c17
    clear c17
    by_cases c18 : (rd l0_1 x6_2) = 0
    · rw [if_pos c18] at H
      have c18b0 : ((rd l0_1 x6_2) == 0) = true := beq_iff_eq.mpr c18
      have c18b1 : ((rd l0_1 x6_2) != 0) = false := bne_eq_false_iff_eq.mpr c18
      clear c18
      by_cases c19 : (x5_2 ++ (⟨#[32]⟩ : ByteArray)).size + 1 ≤ 9223372036854775807
      rotate_left
      · rw [if_neg c19] at H
        exact absurd H (by simp)
      rw [if_pos c19] at H
      have c19b0 := eq_true c19
      have c19b1 : decide ((x5_2 ++ (⟨#[32]⟩ : ByteArray)).size + 1 ≤ 9223372036854775807) = true := decide_eq_true c19
      try have c19b2 : (9223372036854775807 < (x5_2 ++ (⟨#[32]⟩ : ByteArray)).size + 1) = False := eq_false (Nat.not_lt.2 c19)
      (try have c19b3 : (9223372036854775807 < x5_2.size + 1 + 1) = False := eq_false (by have q_ := c19; simp only [ByteArray.size_append] at q_; have : (⟨#[32]⟩ : ByteArray).size = 1 := rfl; omega))
      have H' := am H
      clear H
      have hcz20_0 := ce0 BK130
      have hcz20_1 := ce1 BK130
      have hfz20_0 := bfz BK130 0
      have hfz20_1 := bfz BK130 1
      have p133 : 0 ≤ (x6_2 : Int) := of_decide_eq_true zl
      have q133 : x6_2 < (l0_1.length : Int) := of_decide_eq_true zl
      obtain ⟨ad133, e133, hx133_0⟩ := Kd.at_int HR0_1.out x6_2 p133 q133
      cases e133
      replace hx133_0 := hcx HB hx133_0
      replace p133 := eq_true p133
      replace q133 := eq_true q133
      go_wp2
      go_roundg k2
      case measure => have := HJ2.out; have := HK2.out; omega
      case rel => exact ⟨((x5_2 ++ (⟨#[32]⟩ : ByteArray)) ++ (⟨#[45]⟩ : ByteArray)), (wrap64 (x6_2 + 1)), ze, ze, H', ⟨by have := HJ2.out; have := HK2.out; omega⟩, ⟨zk BK130⟩, ⟨zb HB⟩⟩
    rw [if_neg c18] at H
    have c18b0 : ((rd l0_1 x6_2) == 0) = false := beq_eq_false_iff_ne.mpr c18
    have c18b1 : ((rd l0_1 x6_2) != 0) = true := bne_iff_ne.mpr c18
    obtain ⟨ji21, hji21⟩ : ∃ j_ : Int, (wrap64 ((rd l0_1 x6_2) - 1)) = j_ := ⟨_, rfl⟩
    replace H : (if 0 ≤ (ji21) then (if (ji21) < (l1.length : Int) then (if ((rd_T55 l1 (ji21)).f1) = 0 then (if (x5_2 ++ (⟨#[32]⟩ : ByteArray)).size + 1 ≤ 9223372036854775807 then (spec_VolText.l0 k2 l1 ((x5_2 ++ (⟨#[32]⟩ : ByteArray)) ++ (⟨#[45]⟩ : ByteArray)) (wrap64 (x6_2 + 1)) a0_0 l0_1) else (none)) else (if (x5_2 ++ (⟨#[32]⟩ : ByteArray)).size + ((rd_T55 l1 (ji21)).f0).size ≤ 9223372036854775807 then (spec_VolText.l0 k2 l1 ((x5_2 ++ (⟨#[32]⟩ : ByteArray)) ++ ((rd_T55 l1 (ji21)).f0)) (wrap64 (x6_2 + 1)) a0_0 l0_1) else (none))) else (none)) else (none)) = some r := by first | (rw [hji21] at H; exact H) | (simp only [hji21] at H ⊢; exact H)
    have hji21w : (IntKind.i64.wrap ((rd l0_1 x6_2) - 1)) = ji21 := (i64_w _).trans hji21
    by_cases c22 : 0 ≤ (ji21)
    rotate_left
    · rw [if_neg c22] at H
      exact absurd H (by simp)
    rw [if_pos c22] at H
    have c22b0 : decide (0 ≤ (ji21)) = true := decide_eq_true c22
    clear c22
    by_cases c23 : (ji21) < (l1.length : Int)
    rotate_left
    · rw [if_neg c23] at H
      exact absurd H (by simp)
    rw [if_pos c23] at H
    have c23b0 : decide ((ji21) < (l1.length : Int)) = true := decide_eq_true c23
    clear c23
    by_cases c24 : ((rd_T55 l1 (ji21)).f1) = 0
    · rw [if_pos c24] at H
      have c24b0 : (((rd_T55 l1 (ji21)).f1) == 0) = true := beq_iff_eq.mpr c24
      have c24b1 : (((rd_T55 l1 (ji21)).f1) != 0) = false := bne_eq_false_iff_eq.mpr c24
      clear c24
      by_cases c25 : (x5_2 ++ (⟨#[32]⟩ : ByteArray)).size + 1 ≤ 9223372036854775807
      rotate_left
      · rw [if_neg c25] at H
        exact absurd H (by simp)
      rw [if_pos c25] at H
      have c25b0 := eq_true c25
      have c25b1 : decide ((x5_2 ++ (⟨#[32]⟩ : ByteArray)).size + 1 ≤ 9223372036854775807) = true := decide_eq_true c25
      try have c25b2 : (9223372036854775807 < (x5_2 ++ (⟨#[32]⟩ : ByteArray)).size + 1) = False := eq_false (Nat.not_lt.2 c25)
      (try have c25b3 : (9223372036854775807 < x5_2.size + 1 + 1) = False := eq_false (by have q_ := c25; simp only [ByteArray.size_append] at q_; have : (⟨#[32]⟩ : ByteArray).size = 1 := rfl; omega))
      have H' := am H
      clear H
      have hcz26_0 := ce0 BK130
      have hcz26_1 := ce1 BK130
      have hfz26_0 := bfz BK130 0
      have hfz26_1 := bfz BK130 1
      have p133 : 0 ≤ (x6_2 : Int) := of_decide_eq_true zl
      have q133 : x6_2 < (l0_1.length : Int) := of_decide_eq_true zl
      obtain ⟨ad133, e133, hx133_0⟩ := Kd.at_int HR0_1.out x6_2 p133 q133
      cases e133
      replace hx133_0 := hcx HB hx133_0
      replace p133 := eq_true p133
      replace q133 := eq_true q133
      have p134 : 0 ≤ (x6_2 : Int) := of_decide_eq_true zl
      have q134 : x6_2 < (l0_1.length : Int) := of_decide_eq_true zl
      obtain ⟨ad134, e134, hx134_0⟩ := Kd.at_int HR0_1.out x6_2 p134 q134
      obtain rfl : ad133 = ad134 := (by injection e134)
      replace hx134_0 := hcx HB hx134_0
      replace p134 := eq_true p134
      replace q134 := eq_true q134
      have p135 : 0 ≤ ((ji21) : Int) := of_decide_eq_true zl
      have q135 : (ji21) < (l1.length : Int) := of_decide_eq_true zl
      obtain ⟨ad135, e135, hx135_0, hx135_1⟩ := at_T55 HR1.out (ji21) p135 q135
      cases e135
      replace hx135_0 := hcx HB hx135_0
      replace hx135_1 := hcx HB hx135_1
      replace p135 := eq_true p135
      replace q135 := eq_true q135
      go_wp2
      go_roundg k2
      case measure => have := HJ2.out; have := HK2.out; omega
      case rel => exact ⟨((x5_2 ++ (⟨#[32]⟩ : ByteArray)) ++ (⟨#[45]⟩ : ByteArray)), (wrap64 (x6_2 + 1)), ze, ze, H', ⟨by have := HJ2.out; have := HK2.out; omega⟩, ⟨zk BK130⟩, ⟨zb HB⟩⟩
    rw [if_neg c24] at H
    have c24b0 : (((rd_T55 l1 (ji21)).f1) == 0) = false := beq_eq_false_iff_ne.mpr c24
    have c24b1 : (((rd_T55 l1 (ji21)).f1) != 0) = true := bne_iff_ne.mpr c24
    by_cases c27 : (x5_2 ++ (⟨#[32]⟩ : ByteArray)).size + ((rd_T55 l1 (ji21)).f0).size ≤ 9223372036854775807
    rotate_left
    · rw [if_neg c27] at H
      exact absurd H (by simp)
    rw [if_pos c27] at H
    have c27b0 := eq_true c27
    have c27b1 : decide ((x5_2 ++ (⟨#[32]⟩ : ByteArray)).size + ((rd_T55 l1 (ji21)).f0).size ≤ 9223372036854775807) = true := decide_eq_true c27
    try have c27b2 : (9223372036854775807 < (x5_2 ++ (⟨#[32]⟩ : ByteArray)).size + ((rd_T55 l1 (ji21)).f0).size) = False := eq_false (Nat.not_lt.2 c27)
    (try have c27b3 : (9223372036854775807 < x5_2.size + 1 + ((rd_T55 l1 (ji21)).f0).size) = False := eq_false (by have q_ := c27; simp only [ByteArray.size_append] at q_; have : (⟨#[32]⟩ : ByteArray).size = 1 := rfl; omega))
    have H' := am H
    clear H
    have hcz28_0 := ce0 BK130
    have hcz28_1 := ce1 BK130
    have hfz28_0 := bfz BK130 0
    have hfz28_1 := bfz BK130 1
    have p133 : 0 ≤ (x6_2 : Int) := of_decide_eq_true zl
    have q133 : x6_2 < (l0_1.length : Int) := of_decide_eq_true zl
    obtain ⟨ad133, e133, hx133_0⟩ := Kd.at_int HR0_1.out x6_2 p133 q133
    cases e133
    replace hx133_0 := hcx HB hx133_0
    replace p133 := eq_true p133
    replace q133 := eq_true q133
    have p134 : 0 ≤ (x6_2 : Int) := of_decide_eq_true zl
    have q134 : x6_2 < (l0_1.length : Int) := of_decide_eq_true zl
    obtain ⟨ad134, e134, hx134_0⟩ := Kd.at_int HR0_1.out x6_2 p134 q134
    obtain rfl : ad133 = ad134 := (by injection e134)
    replace hx134_0 := hcx HB hx134_0
    replace p134 := eq_true p134
    replace q134 := eq_true q134
    have p135 : 0 ≤ ((ji21) : Int) := of_decide_eq_true zl
    have q135 : (ji21) < (l1.length : Int) := of_decide_eq_true zl
    obtain ⟨ad135, e135, hx135_0, hx135_1⟩ := at_T55 HR1.out (ji21) p135 q135
    cases e135
    replace hx135_0 := hcx HB hx135_0
    replace hx135_1 := hcx HB hx135_1
    replace p135 := eq_true p135
    replace q135 := eq_true q135
    have p136 : 0 ≤ (x6_2 : Int) := of_decide_eq_true zl
    have q136 : x6_2 < (l0_1.length : Int) := of_decide_eq_true zl
    obtain ⟨ad136, e136, hx136_0⟩ := Kd.at_int HR0_1.out x6_2 p136 q136
    obtain rfl : ad133 = ad136 := (by injection e136)
    replace hx136_0 := hcx HB hx136_0
    replace p136 := eq_true p136
    replace q136 := eq_true q136
    have p137 : 0 ≤ ((ji21) : Int) := of_decide_eq_true zl
    have q137 : (ji21) < (l1.length : Int) := of_decide_eq_true zl
    obtain ⟨ad137, e137, hx137_0, hx137_1⟩ := at_T55 HR1.out (ji21) p137 q137
    obtain rfl : ad135 = ad137 := (by injection e137)
    replace hx137_0 := hcx HB hx137_0
    replace hx137_1 := hcx HB hx137_1
    replace p137 := eq_true p137
    replace q137 := eq_true q137
    go_wp2
    go_roundg k2
    case measure => have := HJ2.out; have := HK2.out; omega
    case rel => exact ⟨((x5_2 ++ (⟨#[32]⟩ : ByteArray)) ++ ((rd_T55 l1 (ji21)).f0)), (wrap64 (x6_2 + 1)), (by first | rfl | (simp; done) | (simp only [← hji21] <;> (first | rfl | simp)) | (simp [*]; done)), ze, H', ⟨by have := HJ2.out; have := HK2.out; omega⟩, ⟨zk BK130⟩, ⟨zb HB⟩⟩
/-! ### spec_PoolText: function 24 -/
def spec_PoolText.l0 : Nat → ByteArray → Int → List (S55) → List (S38) → Option (ByteArray)
 | 0, _, _, _, _ => none
 | k + 1, x3, x4, x139000, x139001 => if x4 < (x139001.length : Int) then (if 0 ≤ x4 then ((spec_VolText.f k ((rd_T38 x139001 x4).f0) ((rd_T38 x139001 x4).f1) x139000).bind fun t141 => (if x3.size + t141.size ≤ 9223372036854775807 then (if (x3 ++ t141).size + 1 ≤ 9223372036854775807 then (spec_PoolText.l0 k ((x3 ++ t141) ++ (⟨#[10]⟩ : ByteArray)) (wrap64 (x4 + 1)) x139000 x139001) else (none)) else (none))) else (none)) else (some x3)
def spec_PoolText.f (k : Nat) (l0_0 : List (S55)) (l0_1 : List (S38)) : Option (ByteArray) := (spec_PoolOk.f k l0_0 l0_1).bind fun t139 => (if t139 = true then (spec_PoolText.l0 k (⟨#[]⟩ : ByteArray) 0 l0_0 l0_1) else (some (⟨#[]⟩ : ByteArray)))
theorem spec_PoolText.mono_l : ∀ k, (∀ y0 y1 y2 y3, LeO (spec_PoolText.l0 k y0 y1 y2 y3) (spec_PoolText.l0 (k + 1) y0 y1 y2 y3))
 | 0 => fun _ _ _ _ r h => by simp [spec_PoolText.l0] at h
 | k + 1 => by
  have ih0 := spec_PoolText.mono_l k
  intro y0 y1 y2 y3
  unfold spec_PoolText.l0
  exact mo3 ih0 @spec_PoolOk.mono @spec_VolText.mono
theorem spec_PoolText.mono : ∀ a0 a1 k, LeO (spec_PoolText.f k a0 a1) (spec_PoolText.f (k + 1) a0 a1) := by
 intro a0 a1 k
 have ih0 := spec_PoolText.mono_l k
 unfold spec_PoolText.f
 exact mo3 ih0 @spec_PoolOk.mono @spec_VolText.mono
def spec_PoolText.T7 : Bool × List (List Nat × List Nat) := (true, [([], []), ([], []), ([1], [1]), ([], []), ([2, 3], [2, 3]), ([4], [4]), ([], []), ([6], [6]), ([5, 7], [5, 7]), ([0, 8], [0, 8]), ([9], [9]), ([10, 8, 0, 1, 2, 3, 4, 5, 6, 7, 8, 9, 10], [0, 10])])
def spec_PoolText.B7 : List Nat := [0, 0, 2, 0, 14, 30, 0, 64, 254, 511, 1023, 2047]
theorem spec_PoolText.tab7 : rtab .any (opsOf Try.f24 7) = spec_PoolText.T7 := by kernel_rfl
theorem spec_PoolText.bits7 : waitsOk spec_PoolText.T7.2 spec_PoolText.B7 = true := by kernel_rfl
set_option maxHeartbeats 8000000 in
set_option maxRecDepth 100000 in
theorem spec_PoolText.calls (k : Nat) (A0_0 : Option Addr) (c0_0 : Nat) (l0_0 : List (S55)) (A0_1 : Option Addr) (c0_1 : Nat) (l0_1 : List (S38)) (r : ByteArray) (w : World) (hr0_0 : Kd.C k55 w A0_0 l0_0.length l0_0) (hc0_0 : l0_0.length ≤ c0_0) (hr0_1 : Kd.C k38 w A0_1 l0_1.length l0_1) (hc0_1 : l0_1.length ≤ c0_1) (h : spec_PoolText.f k l0_0 l0_1 = some r) :
 Calls Try.prog 24 #[.agg #[.slice A0_0 l0_0.length c0_0, .slice A0_1 l0_1.length c0_1]] w fun e w' => e = .returned (.string r) ∧ Below w.heap.size w w' := by
 have hu31 := Try.underlying31
 have hu38 := Try.underlying38
 have HR0_0 := am hr0_0
 have HC0_0 := am hc0_0
 clear hr0_0 hc0_0
 have HR0_1 := am hr0_1
 have HC0_1 := am hc0_1
 clear hr0_1 hc0_1
 have HB := am (Below.refl w.heap.size w)
 have H : ((spec_PoolOk.f k l0_0 l0_1).bind fun t139 => (if t139 = true then (spec_PoolText.l0 k (⟨#[]⟩ : ByteArray) 0 l0_0 l0_1) else (some (⟨#[]⟩ : ByteArray)))) = some r := h
 clear h
 replace H := obs H
 obtain ⟨t139, A20, H⟩ := H
 replace H : (if t139 = true then (spec_PoolText.l0 k (⟨#[]⟩ : ByteArray) 0 l0_0 l0_1) else (some (⟨#[]⟩ : ByteArray))) = some r := H
 have A2 := am A20
 clear A20
 by_cases c3 : t139 = true
 rotate_left
 · replace c3 := Bool.eq_false_iff.mpr c3
   subst c3
   have H1 : (some (⟨#[]⟩ : ByteArray)) = some r := by rw [if_neg (show ¬ (false = true) by decide)] at H; exact H
   clear H
   have H := H1
   clear H1
   obtain rfl := Option.some.inj H
   go_enter Try.func24, Try.ntmps24
   go_wp2_with (first | ((with_reducible refine gate_dst (N := 1) rfl ?_); refine bx 31 #[.slice A0_0 l0_0.length c0_0, .slice A0_1 l0_1.length c0_1] ?_; intro gb138 hg w16 hbox hb; have BK138 := am (hbox); have GW138 := am (zn hg (zb HB)); have GE138 := am (zn hg (zb HB)); replace HB := am (below_step (zb HB) hb); clear hb hbox hg; have hcz17_0 := ce0 BK138; have hcz17_1 := ce1 BK138; have hfz17_0 := bfz BK138 0; have hfz17_1 := bfz BK138 1) | ((with_reducible refine gate_callee (f := 15) rfl ?_); refine gl Try.func15 6 #[.agg #[.slice A0_0 l0_0.length c0_0, .slice A0_1 l0_1.length c0_1]] rfl rfl rfl ?_; (with_reducible refine (spec_PoolOk.calls k _ _ l0_0 _ _ l0_1 false _ ?side1 ?side2 ?side3 ?side4 A2.out).mono ?_); (case side1 => exact zc (Kd.C_below HR0_0.out HB.out)); (case side2 => exact HC0_0.out); (case side3 => exact zc (Kd.C_below HR0_1.out HB.out)); (case side4 => exact HC0_1.out); rintro e w18 ⟨rfl, hb⟩; refine ⟨_, rfl, ?_⟩; replace BK138 := am (blk_below (zk BK138) hb); replace HB := am (below_step (zb HB) hb); (try clear hb); (try clear hb2); (try clear hk); (try clear hi)))
   go_ret
   exact ⟨zv, (zb HB)⟩
 subst c3
 have H1 : (spec_PoolText.l0 k (⟨#[]⟩ : ByteArray) 0 l0_0 l0_1) = some r := by rw [if_pos rfl] at H; exact H
 clear H
 have H := H1
 clear H1
 have H' := am H
 clear H
 go_enter Try.func24, Try.ntmps24
 go_wp2_with (first | ((with_reducible refine gate_dst (N := 1) rfl ?_); refine bx 31 #[.slice A0_0 l0_0.length c0_0, .slice A0_1 l0_1.length c0_1] ?_; intro gb138 hg w4 hbox hb; have BK138 := am (hbox); have GW138 := am (zn hg (zb HB)); have GE138 := am (zn hg (zb HB)); replace HB := am (below_step (zb HB) hb); clear hb hbox hg; have hcz5_0 := ce0 BK138; have hcz5_1 := ce1 BK138; have hfz5_0 := bfz BK138 0; have hfz5_1 := bfz BK138 1) | ((with_reducible refine gate_callee (f := 15) rfl ?_); refine gl Try.func15 6 #[.agg #[.slice A0_0 l0_0.length c0_0, .slice A0_1 l0_1.length c0_1]] rfl rfl rfl ?_; (with_reducible refine (spec_PoolOk.calls k _ _ l0_0 _ _ l0_1 true _ ?side1 ?side2 ?side3 ?side4 A2.out).mono ?_); (case side1 => exact zc (Kd.C_below HR0_0.out HB.out)); (case side2 => exact HC0_0.out); (case side3 => exact zc (Kd.C_below HR0_1.out HB.out)); (case side4 => exact HC0_1.out); rintro e w6 ⟨rfl, hb⟩; refine ⟨_, rfl, ?_⟩; replace BK138 := am (blk_below (zk BK138) hb); replace HB := am (below_step (zb HB) hb); (try clear hb); (try clear hb2); (try clear hk); (try clear hi)))
 go_loopg [3, 4] k (fun kq v3 v4 w' => ∃ (x3_1 : ByteArray) (x4_1 : Int), v3 = .string x3_1 ∧ v4 = .int .i64 x4_1 ∧ Aside0 (spec_PoolText.l0 kq x3_1 x4_1 l0_0 l0_1 = some r) ∧ Aside0 (kq ≤ k) ∧ Aside0 (w'.heap[gb138]? = some (.cells #[(.slice A0_0 l0_0.length c0_0), (.slice A0_1 l0_1.length c0_1)] 31 (0, 0))) ∧ Aside0 (Below w.heap.size w w'))
 case atStart => exact ⟨((⟨#[]⟩ : ByteArray)), (0), ze, ze, H', ⟨Nat.le_refl _⟩, ⟨zk BK138⟩, ⟨zb HB⟩⟩
 case round =>
  clear H'
  try clear c1
  try clear c2
  try clear p2
  try clear c3
  try clear hcz5_0
  try clear hcz5_1
  try clear hfz5_0
  try clear hfz5_1
  obtain ⟨x3_1, x4_1, rfl, rfl, HA, HK1, BK138, HB⟩ := hrel
  cases gk with
  | zero => exact absurd HA.out (by simp [spec_PoolText.l0])
  | succ k1 =>
   have H := HA.out
   clear HA
   simp only [spec_PoolText.l0] at H
   by_cases c7 : x4_1 < (l0_1.length : Int)
   rotate_left
   · rw [if_neg c7] at H
     have c7b0 : decide (x4_1 < (l0_1.length : Int)) = false := decide_eq_false c7
     clear c7
     obtain rfl := Option.some.inj H
     have hcz15_0 := ce0 BK138
     have hcz15_1 := ce1 BK138
     have hfz15_0 := bfz BK138 0
     have hfz15_1 := bfz BK138 1
     go_wp2
     go_ret
     exact ⟨zv, (zb HB)⟩
   rw [if_pos c7] at H
   have c7b0 : decide (x4_1 < (l0_1.length : Int)) = true := decide_eq_true c7
   clear c7
   by_cases c8 : 0 ≤ x4_1
   rotate_left
   · rw [if_neg c8] at H
     exact absurd H (by simp)
   rw [if_pos c8] at H
   have c8b0 : decide (0 ≤ x4_1) = true := decide_eq_true c8
   clear c8
   replace H := obs H
   obtain ⟨t141, A90, H⟩ := H
   replace H : (if x3_1.size + t141.size ≤ 9223372036854775807 then (if (x3_1 ++ t141).size + 1 ≤ 9223372036854775807 then (spec_PoolText.l0 k1 ((x3_1 ++ t141) ++ (⟨#[10]⟩ : ByteArray)) (wrap64 (x4_1 + 1)) l0_0 l0_1) else (none)) else (none)) = some r := H
   have A9 := am A90
   clear A90
   by_cases c10 : x3_1.size + t141.size ≤ 9223372036854775807
   rotate_left
   · rw [if_neg c10] at H
     exact absurd H (by simp)
   rw [if_pos c10] at H
   have c10b0 := eq_true c10
   have c10b1 : decide (x3_1.size + t141.size ≤ 9223372036854775807) = true := decide_eq_true c10
   try have c10b2 : (9223372036854775807 < x3_1.size + t141.size) = False := eq_false (Nat.not_lt.2 c10)
   by_cases c11 : (x3_1 ++ t141).size + 1 ≤ 9223372036854775807
   rotate_left
   · rw [if_neg c11] at H
     exact absurd H (by simp)
   rw [if_pos c11] at H
   have c11b0 := eq_true c11
   have c11b1 : decide ((x3_1 ++ t141).size + 1 ≤ 9223372036854775807) = true := decide_eq_true c11
   try have c11b2 : (9223372036854775807 < (x3_1 ++ t141).size + 1) = False := eq_false (Nat.not_lt.2 c11)
   (try have c11b3 : (9223372036854775807 < x3_1.size + t141.size + 1) = False := eq_false (by have q_ := c11; simp only [ByteArray.size_append] at q_; omega))
   have H' := am H
   clear H
   have hcz12_0 := ce0 BK138
   have hcz12_1 := ce1 BK138
   have hfz12_0 := bfz BK138 0
   have hfz12_1 := bfz BK138 1
   try go_wp2
   replace BK138 := am (blk_drew BK138.out)
   replace HB := am (below_drew1 HB.out)
   have p140 : 0 ≤ (x4_1 : Int) := of_decide_eq_true zl
   have q140 : x4_1 < (l0_1.length : Int) := of_decide_eq_true zl
   obtain ⟨ad140, A140_1, c140_1, e140, hx140_0, hx140_1, hl140_1, hi140_1⟩ := at_T38 HR0_1.out x4_1 p140 q140
   have hw140_1 := hx140_1
   have hw140_0 := hx140_0
   cases e140
   replace hx140_0 := hcx HB hx140_0
   replace hx140_1 := hcx HB hx140_1
   have HR140_1 := am hi140_1
   have HC140_1 := am hl140_1
   clear hi140_1 hl140_1
   replace p140 := eq_true p140
   replace q140 := eq_true q140
   refine start_ (n := 12) (S := fun w' => w'.cell? ⟨gb138, 0, none⟩ = some (.slice A0_0 l0_0.length c0_0) ∧ w'.cell? ⟨gb138, 1, none⟩ = some (.slice (some ad140) l0_1.length c0_1) ∧ w'.cell? (ad140.add ((x4_1).toNat * 2)) = some (.string ((rd_T38 l0_1 x4_1).f0)) ∧ w'.cell? ⟨(ad140.add ((x4_1).toNat * 2)).block, (ad140.add ((x4_1).toNat * 2)).off + 1, none⟩ = some (.slice A140_1 ((rd_T38 l0_1 x4_1).f1).length c140_1)) (ds := []) (bs 12 0) (by kernel_rfl) rfl rfl ⟨ce0 BK138, ce1 BK138, (hcx HB hw140_0), (hcx HB hw140_1)⟩ (fun hHeld => ?_); refine with_tabW spec_PoolText.tab7 spec_PoolText.bits7 (fun HT_ HW_ => ?_)
   generalize wr.drew = w13 at BK138 HB HR140_1 hx140_0 hx140_1 hHeld ⊢
   refine pu 0 16 12 1 rfl rfl ?_
   refine pu 1 17 12 3 rfl rfl ?_
   refine pu 3 19 12 11 rfl rfl ?_
   refine pu 6 22 12 75 rfl rfl ?_
   refine ta4 2 18 12 79 rfl rfl hHeld ?_
   refine pu 4 20 12 95 rfl rfl ?_
   refine ta4 5 21 12 127 rfl rfl hHeld ?_
   refine ta4 7 23 12 255 rfl rfl hHeld ?_
   refine oz 8 12 511 rfl rfl (fun K hK => ?_)
   refine gs Try.func31 #[.agg #[.string ((rd_T38 l0_1 x4_1).f0), .slice A140_1 ((rd_T38 l0_1 x4_1).f1).length c140_1], .slice A0_0 l0_0.length c0_0] rfl rfl ?_
   with_reducible refine (spec_VolText.calls k1 ((rd_T38 l0_1 x4_1).f0) _ _ ((rd_T38 l0_1 x4_1).f1) _ _ l0_0 t141 _ ?side1 ?side2 ?side3 ?side4 A9.out).mono ?_
   (case side1 => exact zc (Kd.C_below HR140_1.out HB.out))
   (case side2 => exact HC140_1.out)
   (case side3 => exact zc (Kd.C_below HR0_0.out HB.out))
   (case side4 => exact HC0_0.out)
   rintro e w14 ⟨rfl, hb⟩
   refine ⟨_, rfl, ?_⟩
   replace BK138 := am (blk_below (zk BK138) hb)
   replace HB := am (below_step (zb HB) hb)
   (try clear hb)
   (try clear hb2)
   (try clear hk)
   (try clear hi)
   refine hK.out _ _ ⟨ce0 BK138, ce1 BK138, (hcx HB hw140_0), (hcx HB hw140_1)⟩ (fun hHeld => ?_)
   clear hK K
   refine norm_ (a' := ?_) ?_ ?_
   rotate_left
   · show Act.put _ (some 24) _ = _
     simp only [Act.put, List.setIfInBounds_toArray, List.set_cons_zero, List.set_cons_succ, i64_w, i32_w]
     rfl
   refine pu 9 25 12 1023 rfl rfl ?_
   refine pu 10 26 12 2047 rfl rfl ?_
   refine pu 11 3 12 4095 rfl rfl ?_
   refine done_ (done_of HT_.out (by kernel_rfl)) ?_
   try go_wp2
   go_roundg k1
   case measure => have := HK1.out; omega
   case rel => exact ⟨((x3_1 ++ t141) ++ (⟨#[10]⟩ : ByteArray)), (wrap64 (x4_1 + 1)), ze, ze, H', ⟨by have := HK1.out; omega⟩, ⟨zk BK138⟩, ⟨zb HB⟩⟩
/-! ### impl_within: function 53 -/
def impl_within.f (a0 : Int) (a1 : Int) (a2 : Int) : Option (Bool) := if a0 ≥ a1 then (some (decide (a0 ≤ a2))) else (some false)
set_option maxHeartbeats 8000000 in
set_option maxRecDepth 100000 in
theorem impl_within.calls (a0 : Int) (a1 : Int) (a2 : Int) (r : Bool) (w : World) (h : impl_within.f a0 a1 a2 = some r) :
 Calls Try.prog 53 #[.int .i64 a0, .int .i64 a1, .int .i64 a2] w fun e w' => e = .returned (.bool r) ∧ Drawn0 w w' := by
 have H : (if a0 ≥ a1 then (some (decide (a0 ≤ a2))) else (some false)) = some r := h
 clear h
 by_cases c4 : a0 ≥ a1
 · rw [if_pos c4] at H
   have c4b0 : decide (a1 ≤ a0) = true := decide_eq_true c4
   clear c4
   obtain rfl := Option.some.inj H
   go_enter Try.func53, Try.ntmps53
   go_wp2
   go_ret
   exact ⟨by first | rfl | (simp; done) | (simp [*]; done), by repeat (first | exact Drawn0.refl _ | apply Drawn0.step)⟩
 rw [if_neg c4] at H
 have c4b0 : decide (a1 ≤ a0) = false := decide_eq_false c4
 clear c4
 obtain rfl := Option.some.inj H
 go_enter Try.func53, Try.ntmps53
 go_wp2
 go_ret
 exact ⟨by first | rfl | (simp; done) | (simp [*]; done), by repeat (first | exact Drawn0.refl _ | apply Drawn0.step)⟩
/-! ### impl_isName: function 54 -/
def impl_isName.f (a0 : ByteArray) : Option (Bool) := if a0.toList = ([65] : List UInt8) then (some true) else (if a0.toList = ([66] : List UInt8) then (some true) else (if a0.toList = ([67] : List UInt8) then (some true) else (some (a0.toList == ([68] : List UInt8)))))
set_option maxHeartbeats 8000000 in
set_option maxRecDepth 100000 in
theorem impl_isName.calls (a0 : ByteArray) (r : Bool) (w : World) (h : impl_isName.f a0 = some r) :
 Calls Try.prog 54 #[.string a0] w fun e w' => e = .returned (.bool r) ∧ Drawn0 w w' := by
 have H : (if a0.toList = ([65] : List UInt8) then (some true) else (if a0.toList = ([66] : List UInt8) then (some true) else (if a0.toList = ([67] : List UInt8) then (some true) else (some (a0.toList == ([68] : List UInt8)))))) = some r := h
 clear h
 by_cases c2 : a0.toList = ([65] : List UInt8)
 · rw [if_pos c2] at H
   have c2b0 : (a0.toList == ([65] : List UInt8)) = true := beq_iff_eq.mpr c2
   have c2b1 : (a0.toList != ([65] : List UInt8)) = false := bne_eq_false_iff_eq.mpr c2
   clear c2
   obtain rfl := Option.some.inj H
   go_enter Try.func54, Try.ntmps54
   go_wp2
   go_ret
   exact ⟨by first | rfl | (simp; done) | (simp [*]; done), by repeat (first | exact Drawn0.refl _ | apply Drawn0.step)⟩
 rw [if_neg c2] at H
 have c2b0 : (a0.toList == ([65] : List UInt8)) = false := beq_eq_false_iff_ne.mpr c2
 have c2b1 : (a0.toList != ([65] : List UInt8)) = true := bne_iff_ne.mpr c2
 by_cases c3 : a0.toList = ([66] : List UInt8)
 · rw [if_pos c3] at H
   have c3b0 : (a0.toList == ([66] : List UInt8)) = true := beq_iff_eq.mpr c3
   have c3b1 : (a0.toList != ([66] : List UInt8)) = false := bne_eq_false_iff_eq.mpr c3
   clear c3
   obtain rfl := Option.some.inj H
   go_enter Try.func54, Try.ntmps54
   go_wp2
   go_ret
   exact ⟨by first | rfl | (simp; done) | (simp [*]; done), by repeat (first | exact Drawn0.refl _ | apply Drawn0.step)⟩
 rw [if_neg c3] at H
 have c3b0 : (a0.toList == ([66] : List UInt8)) = false := beq_eq_false_iff_ne.mpr c3
 have c3b1 : (a0.toList != ([66] : List UInt8)) = true := bne_iff_ne.mpr c3
 by_cases c4 : a0.toList = ([67] : List UInt8)
 · rw [if_pos c4] at H
   have c4b0 : (a0.toList == ([67] : List UInt8)) = true := beq_iff_eq.mpr c4
   have c4b1 : (a0.toList != ([67] : List UInt8)) = false := bne_eq_false_iff_eq.mpr c4
   clear c4
   obtain rfl := Option.some.inj H
   go_enter Try.func54, Try.ntmps54
   go_wp2
   go_ret
   exact ⟨by first | rfl | (simp; done) | (simp [*]; done), by repeat (first | exact Drawn0.refl _ | apply Drawn0.step)⟩
 rw [if_neg c4] at H
 have c4b0 : (a0.toList == ([67] : List UInt8)) = false := beq_eq_false_iff_ne.mpr c4
 have c4b1 : (a0.toList != ([67] : List UInt8)) = true := bne_iff_ne.mpr c4
 obtain rfl := Option.some.inj H
 go_enter Try.func54, Try.ntmps54
 go_wp2
 go_ret
 exact ⟨by first | rfl | (simp; done) | (simp [*]; done), by repeat (first | exact Drawn0.refl _ | apply Drawn0.step)⟩
end Go.Proofs.Ytooamacekmjpaaa.PFnPoolText
