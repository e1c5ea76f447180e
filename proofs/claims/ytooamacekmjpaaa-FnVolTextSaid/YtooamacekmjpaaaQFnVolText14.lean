/- The walk: each function that the law comes to as a plain Lean function, and a proof that the Go code answers so. Written by this session's program over the kit's printer. -/
import Derived.Test.YtooamacekmjpaaaZ
import Derived.Test.YtooamacekmjpaaaQFnVolText0
import Derived.Test.YtooamacekmjpaaaQFnVolText11
import Derived.Test.YtooamacekmjpaaaQFnVolText12
import Derived.Test.YtooamacekmjpaaaQFnVolText13
namespace Go.Proofs.Ytooamacekmjpaaa.PFnVolText
open Go.RowKit Go.Proofs.YtooamacekmjpaaaW.PrintWords Go.Proofs.YtooamacekmjpaaaW.PrintLast Go.Proofs.YtooamacekmjpaaaW.PrintMore
attribute [local go_sem] max2_int min2_int max_two min_two max_three min_three max_four min_four   -- for this text's walks alone
set_option linter.unusedVariables false
set_option linter.unusedSimpArgs false
/-! ### spec_VolText: function 31 -/
mutual
def spec_VolText.j0 : Nat → List (S55) → Bool → ByteArray → List Int → Option (ByteArray)
 | 0, _, _, _, _ => none
 | k + 1, x1, x14, x524000, x524001 => if x14 = true then (some (⟨#[]⟩ : ByteArray)) else (spec_VolText.l0 k x1 x524000 0 x524000 x524001)
def spec_VolText.l0 : Nat → List (S55) → ByteArray → Int → ByteArray → List Int → Option (ByteArray)
 | 0, _, _, _, _, _ => none
 | k + 1, x1, x5, x6, x524000, x524001 => if x6 < (x524001.length : Int) then (if x5.size + 1 ≤ 9223372036854775807 then (if 0 ≤ x6 then (if (rd x524001 x6) = 0 then (if (x5 ++ (⟨#[32]⟩ : ByteArray)).size + 1 ≤ 9223372036854775807 then (spec_VolText.l0 k x1 ((x5 ++ (⟨#[32]⟩ : ByteArray)) ++ (⟨#[45]⟩ : ByteArray)) (wrap64 (x6 + 1)) x524000 x524001) else (none)) else (if 0 ≤ (wrap64 ((rd x524001 x6) - 1)) then (if (wrap64 ((rd x524001 x6) - 1)) < (x1.length : Int) then (if ((rd_T55 x1 (wrap64 ((rd x524001 x6) - 1))).f1) = 0 then (if (x5 ++ (⟨#[32]⟩ : ByteArray)).size + 1 ≤ 9223372036854775807 then (spec_VolText.l0 k x1 ((x5 ++ (⟨#[32]⟩ : ByteArray)) ++ (⟨#[45]⟩ : ByteArray)) (wrap64 (x6 + 1)) x524000 x524001) else (none)) else (if (x5 ++ (⟨#[32]⟩ : ByteArray)).size + ((rd_T55 x1 (wrap64 ((rd x524001 x6) - 1))).f0).size ≤ 9223372036854775807 then (spec_VolText.l0 k x1 ((x5 ++ (⟨#[32]⟩ : ByteArray)) ++ ((rd_T55 x1 (wrap64 ((rd x524001 x6) - 1))).f0)) (wrap64 (x6 + 1)) x524000 x524001) else (none))) else (none)) else (none))) else (none)) else (none)) else (some x5)
end
def spec_VolText.f (k : Nat) (a0_0 : ByteArray) (l0_1 : List Int) (l1 : List (S55)) : Option (ByteArray) := (spec_VolOk.f k a0_0 l0_1).bind fun t524 => (if t524 = true then ((spec_StoreOk.f k l1).bind fun t525 => (spec_VolText.j0 k l1 (!t525) a0_0 l0_1)) else (spec_VolText.j0 k l1 true a0_0 l0_1))
theorem spec_VolText.mono_l : ∀ k, (∀ y0 y1 y2 y3, LeO (spec_VolText.j0 k y0 y1 y2 y3) (spec_VolText.j0 (k + 1) y0 y1 y2 y3)) ∧ (∀ y0 y1 y2 y3 y4, LeO (spec_VolText.l0 k y0 y1 y2 y3 y4) (spec_VolText.l0 (k + 1) y0 y1 y2 y3 y4))
 | 0 => ⟨fun _ _ _ _ r h => by simp [spec_VolText.j0] at h, fun _ _ _ _ _ r h => by simp [spec_VolText.l0] at h⟩
 | k + 1 => by
  obtain ⟨ih0, ih1⟩ := spec_VolText.mono_l k
  refine ⟨?_, ?_⟩
  · intro y0 y1 y2 y3
    unfold spec_VolText.j0
    exact mo4 ih0 ih1 @spec_StoreOk.mono @spec_VolOk.mono
  intro y0 y1 y2 y3 y4
  unfold spec_VolText.l0
  exact mo4 ih0 ih1 @spec_StoreOk.mono @spec_VolOk.mono
theorem spec_VolText.mono : ∀ a0 a1 a2 k, LeO (spec_VolText.f k a0 a1 a2) (spec_VolText.f (k + 1) a0 a1 a2) := by
 intro a0 a1 a2 k
 obtain ⟨ih0, ih1⟩ := spec_VolText.mono_l k
 unfold spec_VolText.f
 exact mo4 ih0 ih1 @spec_StoreOk.mono @spec_VolOk.mono
set_option maxHeartbeats 8000000 in
set_option maxRecDepth 100000 in
theorem spec_VolText.calls (k : Nat) (a0_0 : ByteArray) (A0_1 : Option Addr) (c0_1 : Nat) (l0_1 : List Int) (A1 : Option Addr) (c1 : Nat) (l1 : List (S55)) (r : ByteArray) (w : World) (hr0_1 : Kd.C (Kd.int .i64) w A0_1 l0_1.length l0_1) (hc0_1 : l0_1.length ≤ c0_1) (hr1 : Kd.C k55 w A1 l1.length l1) (hc1 : l1.length ≤ c1) (h : spec_VolText.f k a0_0 l0_1 l1 = some r) :
 Calls Try.prog 31 #[.agg #[.string a0_0, .slice A0_1 l0_1.length c0_1], .slice A1 l1.length c1] w fun e w' => e = .returned (.string r) ∧ Below w.heap.size w w' := by
 have hu38 := Try.underlying38
 have HR0_1 := am hr0_1
 have HC0_1 := am hc0_1
 clear hr0_1 hc0_1
 have HR1 := am hr1
 have HC1 := am hc1
 clear hr1 hc1
 have HB := am (Below.refl w.heap.size w)
 have H : ((spec_VolOk.f k a0_0 l0_1).bind fun t524 => (if t524 = true then ((spec_StoreOk.f k l1).bind fun t525 => (spec_VolText.j0 k l1 (!t525) a0_0 l0_1)) else (spec_VolText.j0 k l1 true a0_0 l0_1))) = some r := h
 clear h
 have HC3 := am H
 clear H
 go_enter Try.func31, Try.ntmps31
 go_upto_region 1 with (first | ((with_reducible refine gate_dst (N := 2) rfl ?_); refine bx 38 #[.string a0_0, .slice A0_1 l0_1.length c0_1] ?_; intro gb523 hg w4 hbox hb; have BK523 := am (hbox); have GW523 := am (zn hg (zb HB)); have GE523 := am (zn hg (zb HB)); replace HB := am (below_step (zb HB) hb); clear hb hbox hg))
 (try simp only [Act.put, List.setIfInBounds_toArray, List.set_cons_zero, List.set_cons_succ])
 go_cut [14] (fun v14 wc => ∃ (kq : Nat) (x14_2 : Bool), v14 = .bool x14_2 ∧ Aside0 (spec_VolText.j0 kq l1 x14_2 a0_0 l0_1 = some r) ∧ Aside0 (kq ≤ k) ∧ Aside0 (wc.heap[gb523]? = some (.cells #[.string a0_0, (.slice A0_1 l0_1.length c0_1)] 38 (0, 0))) ∧ Aside0 (Below w.heap.size w wc))
 case first =>
  have H := HC3.out
  clear HC3
  replace H := obs H
  obtain ⟨t524, A50, H⟩ := H
  replace H : (if t524 = true then ((spec_StoreOk.f k l1).bind fun t525 => (spec_VolText.j0 k l1 (!t525) a0_0 l0_1)) else (spec_VolText.j0 k l1 true a0_0 l0_1)) = some r := H
  have A5 := am A50
  clear A50
  by_cases c6 : t524 = true
  rotate_left
  · replace c6 := Bool.eq_false_iff.mpr c6
    subst c6
    have H1 : (spec_VolText.j0 k l1 true a0_0 l0_1) = some r := by rw [if_neg (show ¬ (false = true) by decide)] at H; exact H
    clear H
    have H := H1
    clear H1
    have H' := am H
    clear H
    have hcz11_0 := ce0 BK523
    have hcz11_1 := ce1 BK523
    have hfz11_0 := bfz BK523 0
    have hfz11_1 := bfz BK523 1
    go_wp2_with (first | ((with_reducible refine gate_callee (f := 21) rfl ?_); refine gl Try.func21 8 #[.agg #[.string a0_0, .slice A0_1 l0_1.length c0_1]] rfl rfl rfl ?_; (with_reducible refine (spec_VolOk.calls k a0_0 _ _ l0_1 false _ ?side1 ?side2 A5.out).mono ?_); (case side1 => exact zc (Kd.C_below HR0_1.out HB.out)); (case side2 => exact HC0_1.out); rintro e w12 ⟨rfl, hb⟩; refine ⟨_, rfl, ?_⟩; replace BK523 := am (blk_below (zk BK523) hb); replace HB := am (below_step (zb HB) hb); (try clear hb); (try clear hb2); (try clear hk); (try clear hi)))
    go_meet
    case rel => exact ⟨_, (true), ze, H', ⟨by first | omega | exact Nat.le_refl _⟩, ⟨zk BK523⟩, ⟨zb HB⟩⟩
  subst c6
  have H1 : ((spec_StoreOk.f k l1).bind fun t525 => (spec_VolText.j0 k l1 (!t525) a0_0 l0_1)) = some r := by rw [if_pos rfl] at H; exact H
  clear H
  have H := H1
  clear H1
  replace H := obs H
  obtain ⟨t525, A70, H⟩ := H
  replace H : (spec_VolText.j0 k l1 (!t525) a0_0 l0_1) = some r := H
  have A7 := am A70
  clear A70
  have H' := am H
  clear H
  have hcz8_0 := ce0 BK523
  have hcz8_1 := ce1 BK523
  have hfz8_0 := bfz BK523 0
  have hfz8_1 := bfz BK523 1
  go_wp2_with (first | ((with_reducible refine gate_callee (f := 21) rfl ?_); refine gl Try.func21 8 #[.agg #[.string a0_0, .slice A0_1 l0_1.length c0_1]] rfl rfl rfl ?_; (with_reducible refine (spec_VolOk.calls k a0_0 _ _ l0_1 true _ ?side1 ?side2 A5.out).mono ?_); (case side1 => exact zc (Kd.C_below HR0_1.out HB.out)); (case side2 => exact HC0_1.out); rintro e w9 ⟨rfl, hb⟩; refine ⟨_, rfl, ?_⟩; replace BK523 := am (blk_below (zk BK523) hb); replace HB := am (below_step (zb HB) hb); (try clear hb); (try clear hb2); (try clear hk); (try clear hi)) | (go_at_call 41; (with_reducible refine (spec_StoreOk.calls k _ _ l1 t525 _ ?side1 ?side2 A7.out).mono ?_); (case side1 => exact zc (Kd.C_below HR1.out HB.out)); (case side2 => exact HC1.out); rintro e w10 ⟨rfl, hb⟩; replace BK523 := am (blk_below (zk BK523) hb); replace HB := am (below_step (zb HB) hb); (try clear hb); (try clear hb2); (try clear hk); (try clear hi)))
  go_meet
  case rel => exact ⟨_, (!t525), ze, H', ⟨by first | omega | exact Nat.le_refl _⟩, ⟨zk BK523⟩, ⟨zb HB⟩⟩
 clear HC3
 try clear c1
 try clear c2
 try clear p2
 try clear c3
 try clear c6
 try clear hcz11_0
 try clear hcz11_1
 try clear hcz8_0
 try clear hcz8_1
 try clear hfz11_0
 try clear hfz11_1
 try clear hfz8_0
 try clear hfz8_1
 obtain ⟨kq, x14_2, rfl, HA, HJ2, BK523, HB⟩ := hcut
 cases kq with
 | zero => exact absurd HA.out (by simp [spec_VolText.j0])
 | succ kj2 =>
  have H := HA.out
  clear HA
  simp only [spec_VolText.j0] at H
  by_cases c13 : x14_2 = true
  · subst c13
    have H1 : (some (⟨#[]⟩ : ByteArray)) = some r := by rw [if_pos rfl] at H; exact H
    clear H
    have H := H1
    clear H1
    obtain rfl := Option.some.inj H
    go_wp2
    go_ret
    exact ⟨zv, (zb HB)⟩
  replace c13 := Bool.eq_false_iff.mpr c13
  subst c13
  have H1 : (spec_VolText.l0 kj2 l1 a0_0 0 a0_0 l0_1) = some r := by rw [if_neg (show ¬ (false = true) by decide)] at H; exact H
  clear H
  have H := H1
  clear H1
  have H' := am H
  clear H
  have hcz14_0 := ce0 BK523
  have hcz14_1 := ce1 BK523
  have hfz14_0 := bfz BK523 0
  have hfz14_1 := bfz BK523 1
  go_wp2
  go_loopg [5, 6] kj2 (fun kq v5 v6 w' => ∃ (x5_2 : ByteArray) (x6_2 : Int), v5 = .string x5_2 ∧ v6 = .int .i64 x6_2 ∧ Aside0 (spec_VolText.l0 kq l1 x5_2 x6_2 a0_0 l0_1 = some r) ∧ Aside0 (kq ≤ kj2) ∧ Aside0 (w'.heap[gb523]? = some (.cells #[.string a0_0, (.slice A0_1 l0_1.length c0_1)] 38 (0, 0))) ∧ Aside0 (Below w.heap.size w w'))
  case atStart => exact ⟨(a0_0), (0), ze, ze, H', ⟨Nat.le_refl _⟩, ⟨zk BK523⟩, ⟨zb HB⟩⟩
  case round =>
   clear H'
   try clear c1
   try clear c2
   try clear p2
   try clear c3
   try clear c6
   try clear c13
   try clear hcz11_0
   try clear hcz11_1
   try clear hcz14_0
   try clear hcz14_1
   try clear hcz8_0
   try clear hcz8_1
   try clear hfz11_0
   try clear hfz11_1
   try clear hfz14_0
   try clear hfz14_1
   try clear hfz8_0
   try clear hfz8_1
   try clear p2
   obtain ⟨x5_2, x6_2, rfl, rfl, HA, HK2, BK523, HB⟩ := hrel
   cases gk with
   | zero => exact absurd HA.out (by simp [spec_VolText.l0])
   | succ k2 =>
    have H := HA.out
    clear HA
    simp only [spec_VolText.l0] at H
    by_cases c15 : x6_2 < (l0_1.length : Int)
    rotate_left
    · rw [if_neg c15] at H
      have c15b0 : decide (x6_2 < (l0_1.length : Int)) = false := decide_eq_false c15
      clear c15
      obtain rfl := Option.some.inj H
      have hcz29_0 := ce0 BK523
      have hcz29_1 := ce1 BK523
      have hfz29_0 := bfz BK523 0
      have hfz29_1 := bfz BK523 1
      go_wp2
      go_ret
      exact ⟨zv, (zb HB)⟩
    rw [if_pos c15] at H
    have c15b0 : decide (x6_2 < (l0_1.length : Int)) = true := decide_eq_true c15
    clear c15
    by_cases c16 : x5_2.size + 1 ≤ 9223372036854775807
    rotate_left
    · rw [if_neg c16] at H
      exact absurd H (by simp)
    rw [if_pos c16] at H
    have c16b0 := eq_true c16
    have c16b1 : decide (x5_2.size + 1 ≤ 9223372036854775807) = true := decide_eq_true c16
    try have c16b2 : (9223372036854775807 < x5_2.size + 1) = False := eq_false (Nat.not_lt.2 c16)
    by_cases c17 : 0 ≤ x6_2
    rotate_left
    · rw [if_neg c17] at H
      exact absurd H (by simp)
    rw [if_pos c17] at H
    have c17b0 : decide (0 ≤ x6_2) = true := decide_eq_true c17
    clear c17
    by_cases c18 : (rd l0_1 x6_2) = 0
    · rw [if_pos c18] at H
      have c18b0 : ((rd l0_1 x6_2) == 0) = true := beq_iff_eq.mpr c18
      have c18b1 : ((rd l0_1 x6_2) != 0) = false := bne_eq_false_iff_eq.mpr c18
      clear c18
      by_cases c19 : (x5_2 ++ (⟨#[32]⟩ : ByteArray)).size + 1 ≤ 9223372036854775807
      rotate_left
      · rw [if_neg c19] at H
        exact absurd H (by simp)
      rw [if_pos c19] at H
      have c19b0 := eq_true c19
      have c19b1 : decide ((x5_2 ++ (⟨#[32]⟩ : ByteArray)).size + 1 ≤ 9223372036854775807) = true := decide_eq_true c19
      try have c19b2 : (9223372036854775807 < (x5_2 ++ (⟨#[32]⟩ : ByteArray)).size + 1) = False := eq_false (Nat.not_lt.2 c19)
      (try have c19b3 : (9223372036854775807 < x5_2.size + 1 + 1) = False := eq_false (by have q_ := c19; simp only [ByteArray.size_append] at q_; have : (⟨#[32]⟩ : ByteArray).size = 1 := rfl; omega))
      have H' := am H
      clear H
      have hcz20_0 := ce0 BK523
      have hcz20_1 := ce1 BK523
      have hfz20_0 := bfz BK523 0
      have hfz20_1 := bfz BK523 1
      have p526 : 0 ≤ (x6_2 : Int) := of_decide_eq_true zl
      have q526 : x6_2 < (l0_1.length : Int) := of_decide_eq_true zl
      obtain ⟨ad526, e526, hx526_0⟩ := Kd.at_int HR0_1.out x6_2 p526 q526
      cases e526
      replace hx526_0 := hcx HB hx526_0
      replace p526 := eq_true p526
      replace q526 := eq_true q526
      go_wp2
      go_roundg k2
      case measure => have := HJ2.out; have := HK2.out; omega
      case rel => exact ⟨((x5_2 ++ (⟨#[32]⟩ : ByteArray)) ++ (⟨#[45]⟩ : ByteArray)), (wrap64 (x6_2 + 1)), ze, ze, H', ⟨by have := HJ2.out; have := HK2.out; omega⟩, ⟨zk BK523⟩, ⟨zb HB⟩⟩
    rw [if_neg c18] at H
    have c18b0 : ((rd l0_1 x6_2) == 0) = false := beq_eq_false_iff_ne.mpr c18
    have c18b1 : ((rd l0_1 x6_2) != 0) = true := bne_iff_ne.mpr c18
    obtain ⟨ji21, hji21⟩ : ∃ j_ : Int, (wrap64 ((rd l0_1 x6_2) - 1)) = j_ := ⟨_, rfl⟩
    replace H : (if 0 ≤ (ji21) then (if (ji21) < (l1.length : Int) then (if ((rd_T55 l1 (ji21)).f1) = 0 then (if (x5_2 ++ (⟨#[32]⟩ : ByteArray)).size + 1 ≤ 9223372036854775807 then (spec_VolText.l0 k2 l1 ((x5_2 ++ (⟨#[32]⟩ : ByteArray)) ++ (⟨#[45]⟩ : ByteArray)) (wrap64 (x6_2 + 1)) a0_0 l0_1) else (none)) else (if (x5_2 ++ (⟨#[32]⟩ : ByteArray)).size + ((rd_T55 l1 (ji21)).f0).size ≤ 9223372036854775807 then (spec_VolText.l0 k2 l1 ((x5_2 ++ (⟨#[32]⟩ : ByteArray)) ++ ((rd_T55 l1 (ji21)).f0)) (wrap64 (x6_2 + 1)) a0_0 l0_1) else (none))) else (none)) else (none)) = some r := by first | (rw [hji21] at H; exact H) | (simp only [hji21] at H ⊢; exact H)
    have hji21w : (IntKind.i64.wrap ((rd l0_1 x6_2) - 1)) = ji21 := (i64_w _).trans hji21
    by_cases c22 : 0 ≤ (ji21)
    rotate_left
    · rw [if_neg c22] at H
      exact absurd H (by simp)
    rw [if_pos c22] at H
    have c22b0 : decide (0 ≤ (ji21)) = true := decide_eq_true c22
    clear c22
    by_cases c23 : (ji21) < (l1.length : Int)
    rotate_left
    · rw [if_neg c23] at H
      exact absurd H (by simp)
    rw [if_pos c23] at H
    have c23b0 : decide ((ji21) < (l1.length : Int)) = true := decide_eq_true c23
    clear c23
    by_cases c24 : ((rd_T55 l1 (ji21)).f1) = 0
    · rw [if_pos c24] at H
      have c24b0 : (((rd_T55 l1 (ji21)).f1) == 0) = true := beq_iff_eq.mpr c24
      have c24b1 : (((rd_T55 l1 (ji21)).f1) != 0) = false := bne_eq_false_iff_eq.mpr c24
      clear c24
      by_cases c25 : (x5_2 ++ (⟨#[32]⟩ : ByteArray)).size + 1 ≤ 9223372036854775807
      rotate_left
      · rw [if_neg c25] at H
        exact absurd H (by simp)
      rw [if_pos c25] at H
      have c25b0 := eq_true c25
      have c25b1 : decide ((x5_2 ++ (⟨#[32]⟩ : ByteArray)).size + 1 ≤ 9223372036854775807) = true := decide_eq_true c25
      try have c25b2 : (9223372036854775807 < (x5_2 ++ (⟨#[32]⟩ : ByteArray)).size + 1) = False := eq_false (Nat.not_lt.2 c25)
      (try have c25b3 : (9223372036854775807 < x5_2.size + 1 + 1) = False := eq_false (by have q_ := c25; simp only [ByteArray.size_append] at q_; have : (⟨#[32]⟩ : ByteArray).size = 1 := rfl; omega))
      have H' := am H
      clear H
      have hcz26_0 := ce0 BK523
      have hcz26_1 := ce1 BK523
      have hfz26_0 := bfz BK523 0
      have hfz26_1 := bfz BK523 1
      have p526 : 0 ≤ (x6_2 : Int) := of_decide_eq_true zl
      have q526 : x6_2 < (l0_1.length : Int) := of_decide_eq_true zl
      obtain ⟨ad526, e526, hx526_0⟩ := Kd.at_int HR0_1.out x6_2 p526 q526
      cases e526
      replace hx526_0 := hcx HB hx526_0
      replace p526 := eq_true p526
      replace q526 := eq_true q526
      have p527 : 0 ≤ (x6_2 : Int) := of_decide_eq_true zl
      have q527 : x6_2 < (l0_1.length : Int) := of_decide_eq_true zl
      obtain ⟨ad527, e527, hx527_0⟩ := Kd.at_int HR0_1.out x6_2 p527 q527
      obtain rfl : ad526 = ad527 := (by injection e527)
      replace hx527_0 := hcx HB hx527_0
      replace p527 := eq_true p527
      replace q527 := eq_true q527
      have p528 : 0 ≤ ((ji21) : Int) := of_decide_eq_true zl
      have q528 : (ji21) < (l1.length : Int) := of_decide_eq_true zl
      obtain ⟨ad528, e528, hx528_0, hx528_1⟩ := at_T55 HR1.out (ji21) p528 q528
      cases e528
      replace hx528_0 := hcx HB hx528_0
      replace hx528_1 := hcx HB hx528_1
      replace p528 := eq_true p528
      replace q528 := eq_true q528
      go_wp2
      go_roundg k2
      case measure => have := HJ2.out; have := HK2.out; omega
      case rel => exact ⟨((x5_2 ++ (⟨#[32]⟩ : ByteArray)) ++ (⟨#[45]⟩ : ByteArray)), (wrap64 (x6_2 + 1)), ze, ze, H', ⟨by have := HJ2.out; have := HK2.out; omega⟩, ⟨zk BK523⟩, ⟨zb HB⟩⟩
    rw [if_neg c24] at H
    have c24b0 : (((rd_T55 l1 (ji21)).f1) == 0) = false := beq_eq_false_iff_ne.mpr c24
    have c24b1 : (((rd_T55 l1 (ji21)).f1) != 0) = true := bne_iff_ne.mpr c24
    by_cases c27 : (x5_2 ++ (⟨#[32]⟩ : ByteArray)).size + ((rd_T55 l1 (ji21)).f0).size ≤ 9223372036854775807
    rotate_left
    · rw [if_neg c27] at H
      exact absurd H (by simp)
    rw [if_pos c27] at H
    have c27b0 := eq_true c27
    have c27b1 : decide ((x5_2 ++ (⟨#[32]⟩ : ByteArray)).size + ((rd_T55 l1 (ji21)).f0).size ≤ 9223372036854775807) = true := decide_eq_true c27
    try have c27b2 : (9223372036854775807 < (x5_2 ++ (⟨#[32]⟩ : ByteArray)).size + ((rd_T55 l1 (ji21)).f0).size) = False := eq_false (Nat.not_lt.2 c27)
    (try have c27b3 : (9223372036854775807 < x5_2.size + 1 + ((rd_T55 l1 (ji21)).f0).size) = False := eq_false (by have q_ := c27; simp only [ByteArray.size_append] at q_; have : (⟨#[32]⟩ : ByteArray).size = 1 := rfl; omega))
    have H' := am H
    clear H
    have hcz28_0 := ce0 BK523
    have hcz28_1 := ce1 BK523
    have hfz28_0 := bfz BK523 0
    have hfz28_1 := bfz BK523 1
    have p526 : 0 ≤ (x6_2 : Int) := of_decide_eq_true zl
    have q526 : x6_2 < (l0_1.length : Int) := of_decide_eq_true zl
    obtain ⟨ad526, e526, hx526_0⟩ := Kd.at_int HR0_1.out x6_2 p526 q526
    cases e526
    replace hx526_0 := hcx HB hx526_0
    replace p526 := eq_true p526
    replace q526 := eq_true q526
    have p527 : 0 ≤ (x6_2 : Int) := of_decide_eq_true zl
    have q527 : x6_2 < (l0_1.length : Int) := of_decide_eq_true zl
    obtain ⟨ad527, e527, hx527_0⟩ := Kd.at_int HR0_1.out x6_2 p527 q527
    obtain rfl : ad526 = ad527 := (by injection e527)
    replace hx527_0 := hcx HB hx527_0
    replace p527 := eq_true p527
    replace q527 := eq_true q527
    have p528 : 0 ≤ ((ji21) : Int) := of_decide_eq_true zl
    have q528 : (ji21) < (l1.length : Int) := of_decide_eq_true zl
    obtain ⟨ad528, e528, hx528_0, hx528_1⟩ := at_T55 HR1.out (ji21) p528 q528
    cases e528
    replace hx528_0 := hcx HB hx528_0
    replace hx528_1 := hcx HB hx528_1
    replace p528 := eq_true p528
    replace q528 := eq_true q528
    have p529 : 0 ≤ (x6_2 : Int) := of_decide_eq_true zl
    have q529 : x6_2 < (l0_1.length : Int) := of_decide_eq_true zl
    obtain ⟨ad529, e529, hx529_0⟩ := Kd.at_int HR0_1.out x6_2 p529 q529
    obtain rfl : ad526 = ad529 := (by injection e529)
    replace hx529_0 := hcx HB hx529_0
    replace p529 := eq_true p529
    replace q529 := eq_true q529
    have p530 : 0 ≤ ((ji21) : Int) := of_decide_eq_true zl
    have q530 : (ji21) < (l1.length : Int) := of_decide_eq_true zl
    obtain ⟨ad530, e530, hx530_0, hx530_1⟩ := at_T55 HR1.out (ji21) p530 q530
    obtain rfl : ad528 = ad530 := (by injection e530)
    replace hx530_0 := hcx HB hx530_0
    replace hx530_1 := hcx HB hx530_1
    replace p530 := eq_true p530
    replace q530 := eq_true q530
    go_wp2
    go_roundg k2
    case measure => have := HJ2.out; have := HK2.out; omega
    case rel => exact ⟨((x5_2 ++ (⟨#[32]⟩ : ByteArray)) ++ ((rd_T55 l1 (ji21)).f0)), (wrap64 (x6_2 + 1)), (by first | rfl | (simp; done) | (simp only [← hji21] <;> (first | rfl | simp)) | (simp [*]; done)), ze, H', ⟨by have := HJ2.out; have := HK2.out; omega⟩, ⟨zk BK523⟩, ⟨zb HB⟩⟩
/-! ### laws_FnVolText: function 9 -/
mutual
def laws_FnVolText.j0 : Nat → List (S55) → ByteArray → Bool → ByteArray → List Int → Option (Bool)
 | 0, _, _, _, _, _ => none
 | k + 1, x4, x5, x28, x539000, x539001 => if x28 = true then ((spec_VolText.f k x539000 x539001 x4).bind fun t541 => (some (x5.toList == t541.toList))) else (laws_FnVolText.l0 k x4 x5 0 0 x539000 x539001)
def laws_FnVolText.l0 : Nat → List (S55) → ByteArray → Int → Int → ByteArray → List Int → Option (Bool)
 | 0, _, _, _, _, _, _ => none
 | k + 1, x4, x5, x6, x7, x539000, x539001 => if x7 < (x5.size : Int) then (if 0 ≤ x7 then (if (bt x5 x7) = 32 then (laws_FnVolText.l0 k x4 x5 (wrap64 (x6 + 1)) (wrap64 (x7 + 1)) x539000 x539001) else (laws_FnVolText.l0 k x4 x5 x6 (wrap64 (x7 + 1)) x539000 x539001)) else (none)) else ((impl_VolText.f k (⟨#[65]⟩ : ByteArray) (([0, 0] : List Int)) x4).bind fun t545 => (if x6 = (x539001.length : Int) then (if 0 ≤ 1 then (if 1 ≤ (x5.size : Int) then (if (x5.extract 0 1).toList = x539000.toList then (some (t545.toList == ([65, 32, 45, 32, 45] : List UInt8))) else (some false)) else (none)) else (none)) else (some false)))
end
def laws_FnVolText.f (k : Nat) (l0 : List Int) : Option (Bool) := if (l0.length : Int) > 1048576 then (some true) else ((spec_DrawVolText.f k l0).bind fun bt531 => ((impl_VolText.f k bt531.1 bt531.2.1 bt531.2.2).bind fun t539 => ((spec_VolText.f k bt531.1 bt531.2.1 bt531.2.2).bind fun t540 => (if t539.toList = t540.toList then (laws_FnVolText.j0 k bt531.2.2 t539 (t539.toList == ([] : List UInt8)) bt531.1 bt531.2.1) else (laws_FnVolText.j0 k bt531.2.2 t539 true bt531.1 bt531.2.1)))))
theorem laws_FnVolText.mono_l : ∀ k, (∀ y0 y1 y2 y3 y4, LeO (laws_FnVolText.j0 k y0 y1 y2 y3 y4) (laws_FnVolText.j0 (k + 1) y0 y1 y2 y3 y4)) ∧ (∀ y0 y1 y2 y3 y4 y5, LeO (laws_FnVolText.l0 k y0 y1 y2 y3 y4 y5) (laws_FnVolText.l0 (k + 1) y0 y1 y2 y3 y4 y5))
 | 0 => ⟨fun _ _ _ _ _ r h => by simp [laws_FnVolText.j0] at h, fun _ _ _ _ _ _ r h => by simp [laws_FnVolText.l0] at h⟩
 | k + 1 => by
  obtain ⟨ih0, ih1⟩ := laws_FnVolText.mono_l k
  refine ⟨?_, ?_⟩
  · intro y0 y1 y2 y3 y4
    unfold laws_FnVolText.j0
    exact mo5 ih0 ih1 @impl_VolText.mono @spec_DrawVolText.mono @spec_VolText.mono
  intro y0 y1 y2 y3 y4 y5
  unfold laws_FnVolText.l0
  exact mo5 ih0 ih1 @impl_VolText.mono @spec_DrawVolText.mono @spec_VolText.mono
theorem laws_FnVolText.mono : ∀ a0 k, LeO (laws_FnVolText.f k a0) (laws_FnVolText.f (k + 1) a0) := by
 intro a0 k
 obtain ⟨ih0, ih1⟩ := laws_FnVolText.mono_l k
 unfold laws_FnVolText.f
 exact mo5 ih0 ih1 @impl_VolText.mono @spec_DrawVolText.mono @spec_VolText.mono
set_option maxHeartbeats 8000000 in
set_option maxRecDepth 100000 in
theorem laws_FnVolText.calls (k : Nat) (A0 : Option Addr) (c0 : Nat) (l0 : List Int) (r : Bool) (w : World) (hr0 : Kd.C (Kd.int .u8) w A0 l0.length l0) (hc0 : l0.length ≤ c0) (h : laws_FnVolText.f k l0 = some r) (hr_ : r = true) :
 Calls Try.prog 9 #[.slice A0 l0.length c0] w fun e w' => e = .returned (.bool r) ∧ Below w.heap.size w w' := by
 have hu38 := Try.underlying38
 have HR0 := am hr0
 have HC0 := am hc0
 clear hr0 hc0
 have HB := am (Below.refl w.heap.size w)
 have H : (if (l0.length : Int) > 1048576 then (some true) else ((spec_DrawVolText.f k l0).bind fun bt531 => ((impl_VolText.f k bt531.1 bt531.2.1 bt531.2.2).bind fun t539 => ((spec_VolText.f k bt531.1 bt531.2.1 bt531.2.2).bind fun t540 => (if t539.toList = t540.toList then (laws_FnVolText.j0 k bt531.2.2 t539 (t539.toList == ([] : List UInt8)) bt531.1 bt531.2.1) else (laws_FnVolText.j0 k bt531.2.2 t539 true bt531.1 bt531.2.1)))))) = some r := h
 clear h
 by_cases c2 : (l0.length : Int) > 1048576
 · rw [if_pos c2] at H
   have c2b0 : decide (1048576 < (l0.length : Int)) = true := decide_eq_true c2
   have c2b1 : decide (1048576 < l0.length) = true := decide_eq_true (by omega)
   clear c2
   obtain rfl := Option.some.inj H
   go_enter Try.func9, Try.ntmps9
   go_wp2
   repeat (go_quiet (fail); try go_wp2)
   go_ret
   exact ⟨zv, (zb HB)⟩
 rw [if_neg c2] at H
 have c2b0 : decide (1048576 < (l0.length : Int)) = false := decide_eq_false c2
 have c2b1 : decide (1048576 < l0.length) = false := decide_eq_false (by omega)
 clear c2
 replace H := obs H
 obtain ⟨⟨t531, t532, t535⟩, A30, H⟩ := H
 replace H : ((impl_VolText.f k t531 t532 t535).bind fun t539 => ((spec_VolText.f k t531 t532 t535).bind fun t540 => (if t539.toList = t540.toList then (laws_FnVolText.j0 k t535 t539 (t539.toList == ([] : List UInt8)) t531 t532) else (laws_FnVolText.j0 k t535 t539 true t531 t532)))) = some r := H
 have A3 := am A30
 clear A30
 replace H := obs H
 obtain ⟨t539, A40, H⟩ := H
 replace H : ((spec_VolText.f k t531 t532 t535).bind fun t540 => (if t539.toList = t540.toList then (laws_FnVolText.j0 k t535 t539 (t539.toList == ([] : List UInt8)) t531 t532) else (laws_FnVolText.j0 k t535 t539 true t531 t532))) = some r := H
 have A4 := am A40
 clear A40
 have HC5 := am H
 clear H
 go_enter Try.func9, Try.ntmps9
 go_upto_region 5 with (first | (go_at_call 29; (with_reducible refine (spec_DrawVolText.calls k _ _ l0 t531 t532 t535 _ ?side1 ?side2 A3.out).mono ?_); (case side1 => repeat (first | exact HR0.out | (with_reducible refine Kd.C_alloc ?_ _) | (with_reducible refine Kd.C_drewN ?_ _) | (with_reducible refine Kd.C_drew ?_))); (case side2 => exact HC0.out); rintro e w6 ⟨v533, v536, rfl, ho0, ho1, hb⟩; have HO534 := am (Kd.Q_lower ho0 (below_size (zb HB))); have HO537 := am (Kd.R_lower ho1 (below_size (zb HB))); replace HB := am (below_step (zb HB) hb); (try clear hb); (try clear hb2); (try clear hk); (try clear hi); (try clear ho0); (try clear ho1)) | ((with_reducible refine gate_dst (N := 3) rfl ?_); refine bx 38 #[.string (⟨#[]⟩ : ByteArray), .slice none 0 0] ?_; intro gb538 hg w7 hbox hb; replace HO534 := am (Kd.Q_below (by (with_reducible repeat (first | apply Kd.Q_alloc | apply Kd.Q_drewN | apply Kd.Q_drew)); exact HO534.out) hb); replace HO537 := am (Kd.R_below (zr HO537) hb); have BK538 := am (hbox); have GW538 := am (zn hg (zb HB)); have GE538 := am (zn hg (zb HB)); replace HB := am (below_step (zb HB) hb); clear hb hbox hg; have hcz8_0 := ce0 BK538; have hcz8_1 := ce1 BK538; have hfz8_0 := bfz BK538 0; have hfz8_1 := bfz BK538 1; obtain ⟨Ao9, co9, eo9, _⟩ := Kd.Q_slice HO534.out; subst eo9; obtain ⟨Ao10, co10, eo10⟩ := Kd.R_slice HO537.out; subst eo10) | (go_at_call 30; (with_reducible refine (impl_VolText.calls k t531 _ _ t532 _ _ t535 t539 _ ?side1 ?side2 ?side3 ?side4 A4.out).mono ?_); (case side1 => refine (Kd.Q_reads' (e := 3) (base := w.heap.size) (ok := fun k_ => True) (n := t532.length) (c := co9) ?_).2.2; exact (by (with_reducible repeat (first | apply Kd.Q_alloc | apply Kd.Q_drewN | apply Kd.Q_drew)); exact (Kd.Q_mono (Kd.Q_far (p := ⟨gb538, 1, none⟩) (Kd.Q_far (p := ⟨gb538, 0, none⟩) (Kd.Q_types HO534.out BK538.out (by decide)) (fun _ hk => hk.2) (.string t531)) (fun _ hk => hk.2) (.slice Ao9 t532.length co9)) (fun _ h_ => h_.1)))); (case side2 => exact (Kd.Q_reads' HO534.out).2.1); (case side3 => refine (Kd.R_reads' (e := 55) (base := w.heap.size) (ok := fun k_ => True) (n := t535.length) (c := co10) ?_).2.2; exact (rf HO537 BK538)); (case side4 => exact (Kd.R_reads' HO537.out).2.1); rintro e w11 ⟨rfl, hb⟩; replace HO534 := am (Kd.Q_below (by (with_reducible repeat (first | apply Kd.Q_alloc | apply Kd.Q_drewN | apply Kd.Q_drew)); exact (Kd.Q_mono (Kd.Q_far (p := ⟨gb538, 1, none⟩) (Kd.Q_far (p := ⟨gb538, 0, none⟩) (Kd.Q_types HO534.out BK538.out (by decide)) (fun _ hk => hk.2) (.string t531)) (fun _ hk => hk.2) (.slice Ao9 t532.length co9)) (fun _ h_ => h_.1))) hb); replace HO537 := am (Kd.R_below (rf HO537 BK538) hb); replace BK538 := am (blk_below (g := gb538) (o := .cells #[.string t531, .slice Ao9 t532.length co9] 38 (0, 0)) (zp BK538) hb); replace HB := am (below_step (zb HB) hb); (try clear hb); (try clear hb2); (try clear hk); (try clear hi)))
 repeat (go_quiet (first | (go_at_call 29; (with_reducible refine (spec_DrawVolText.calls k _ _ l0 t531 t532 t535 _ ?side1 ?side2 A3.out).mono ?_); (case side1 => repeat (first | exact HR0.out | (with_reducible refine Kd.C_alloc ?_ _) | (with_reducible refine Kd.C_drewN ?_ _) | (with_reducible refine Kd.C_drew ?_))); (case side2 => exact HC0.out); rintro e w6 ⟨v533, v536, rfl, ho0, ho1, hb⟩; have HO534 := am (Kd.Q_lower ho0 (below_size (zb HB))); have HO537 := am (Kd.R_lower ho1 (below_size (zb HB))); replace HB := am (below_step (zb HB) hb); (try clear hb); (try clear hb2); (try clear hk); (try clear hi); (try clear ho0); (try clear ho1)) | ((with_reducible refine gate_dst (N := 3) rfl ?_); refine bx 38 #[.string (⟨#[]⟩ : ByteArray), .slice none 0 0] ?_; intro gb538 hg w7 hbox hb; replace HO534 := am (Kd.Q_below (by (with_reducible repeat (first | apply Kd.Q_alloc | apply Kd.Q_drewN | apply Kd.Q_drew)); exact HO534.out) hb); replace HO537 := am (Kd.R_below (zr HO537) hb); have BK538 := am (hbox); have GW538 := am (zn hg (zb HB)); have GE538 := am (zn hg (zb HB)); replace HB := am (below_step (zb HB) hb); clear hb hbox hg; have hcz8_0 := ce0 BK538; have hcz8_1 := ce1 BK538; have hfz8_0 := bfz BK538 0; have hfz8_1 := bfz BK538 1; obtain ⟨Ao9, co9, eo9, _⟩ := Kd.Q_slice HO534.out; subst eo9; obtain ⟨Ao10, co10, eo10⟩ := Kd.R_slice HO537.out; subst eo10) | (go_at_call 30; (with_reducible refine (impl_VolText.calls k t531 _ _ t532 _ _ t535 t539 _ ?side1 ?side2 ?side3 ?side4 A4.out).mono ?_); (case side1 => refine (Kd.Q_reads' (e := 3) (base := w.heap.size) (ok := fun k_ => True) (n := t532.length) (c := co9) ?_).2.2; exact (by (with_reducible repeat (first | apply Kd.Q_alloc | apply Kd.Q_drewN | apply Kd.Q_drew)); exact (Kd.Q_mono (Kd.Q_far (p := ⟨gb538, 1, none⟩) (Kd.Q_far (p := ⟨gb538, 0, none⟩) (Kd.Q_types HO534.out BK538.out (by decide)) (fun _ hk => hk.2) (.string t531)) (fun _ hk => hk.2) (.slice Ao9 t532.length co9)) (fun _ h_ => h_.1)))); (case side2 => exact (Kd.Q_reads' HO534.out).2.1); (case side3 => refine (Kd.R_reads' (e := 55) (base := w.heap.size) (ok := fun k_ => True) (n := t535.length) (c := co10) ?_).2.2; exact (rf HO537 BK538)); (case side4 => exact (Kd.R_reads' HO537.out).2.1); rintro e w11 ⟨rfl, hb⟩; replace HO534 := am (Kd.Q_below (by (with_reducible repeat (first | apply Kd.Q_alloc | apply Kd.Q_drewN | apply Kd.Q_drew)); exact (Kd.Q_mono (Kd.Q_far (p := ⟨gb538, 1, none⟩) (Kd.Q_far (p := ⟨gb538, 0, none⟩) (Kd.Q_types HO534.out BK538.out (by decide)) (fun _ hk => hk.2) (.string t531)) (fun _ hk => hk.2) (.slice Ao9 t532.length co9)) (fun _ h_ => h_.1))) hb); replace HO537 := am (Kd.R_below (rf HO537 BK538) hb); replace BK538 := am (blk_below (g := gb538) (o := .cells #[.string t531, .slice Ao9 t532.length co9] 38 (0, 0)) (zp BK538) hb); replace HB := am (below_step (zb HB) hb); (try clear hb); (try clear hb2); (try clear hk); (try clear hi))); go_upto_region 5 with (first | (go_at_call 29; (with_reducible refine (spec_DrawVolText.calls k _ _ l0 t531 t532 t535 _ ?side1 ?side2 A3.out).mono ?_); (case side1 => repeat (first | exact HR0.out | (with_reducible refine Kd.C_alloc ?_ _) | (with_reducible refine Kd.C_drewN ?_ _) | (with_reducible refine Kd.C_drew ?_))); (case side2 => exact HC0.out); rintro e w6 ⟨v533, v536, rfl, ho0, ho1, hb⟩; have HO534 := am (Kd.Q_lower ho0 (below_size (zb HB))); have HO537 := am (Kd.R_lower ho1 (below_size (zb HB))); replace HB := am (below_step (zb HB) hb); (try clear hb); (try clear hb2); (try clear hk); (try clear hi); (try clear ho0); (try clear ho1)) | ((with_reducible refine gate_dst (N := 3) rfl ?_); refine bx 38 #[.string (⟨#[]⟩ : ByteArray), .slice none 0 0] ?_; intro gb538 hg w7 hbox hb; replace HO534 := am (Kd.Q_below (by (with_reducible repeat (first | apply Kd.Q_alloc | apply Kd.Q_drewN | apply Kd.Q_drew)); exact HO534.out) hb); replace HO537 := am (Kd.R_below (zr HO537) hb); have BK538 := am (hbox); have GW538 := am (zn hg (zb HB)); have GE538 := am (zn hg (zb HB)); replace HB := am (below_step (zb HB) hb); clear hb hbox hg; have hcz8_0 := ce0 BK538; have hcz8_1 := ce1 BK538; have hfz8_0 := bfz BK538 0; have hfz8_1 := bfz BK538 1; obtain ⟨Ao9, co9, eo9, _⟩ := Kd.Q_slice HO534.out; subst eo9; obtain ⟨Ao10, co10, eo10⟩ := Kd.R_slice HO537.out; subst eo10) | (go_at_call 30; (with_reducible refine (impl_VolText.calls k t531 _ _ t532 _ _ t535 t539 _ ?side1 ?side2 ?side3 ?side4 A4.out).mono ?_); (case side1 => refine (Kd.Q_reads' (e := 3) (base := w.heap.size) (ok := fun k_ => True) (n := t532.length) (c := co9) ?_).2.2; exact (by (with_reducible repeat (first | apply Kd.Q_alloc | apply Kd.Q_drewN | apply Kd.Q_drew)); exact (Kd.Q_mono (Kd.Q_far (p := ⟨gb538, 1, none⟩) (Kd.Q_far (p := ⟨gb538, 0, none⟩) (Kd.Q_types HO534.out BK538.out (by decide)) (fun _ hk => hk.2) (.string t531)) (fun _ hk => hk.2) (.slice Ao9 t532.length co9)) (fun _ h_ => h_.1)))); (case side2 => exact (Kd.Q_reads' HO534.out).2.1); (case side3 => refine (Kd.R_reads' (e := 55) (base := w.heap.size) (ok := fun k_ => True) (n := t535.length) (c := co10) ?_).2.2; exact (rf HO537 BK538)); (case side4 => exact (Kd.R_reads' HO537.out).2.1); rintro e w11 ⟨rfl, hb⟩; replace HO534 := am (Kd.Q_below (by (with_reducible repeat (first | apply Kd.Q_alloc | apply Kd.Q_drewN | apply Kd.Q_drew)); exact (Kd.Q_mono (Kd.Q_far (p := ⟨gb538, 1, none⟩) (Kd.Q_far (p := ⟨gb538, 0, none⟩) (Kd.Q_types HO534.out BK538.out (by decide)) (fun _ hk => hk.2) (.string t531)) (fun _ hk => hk.2) (.slice Ao9 t532.length co9)) (fun _ h_ => h_.1))) hb); replace HO537 := am (Kd.R_below (rf HO537 BK538) hb); replace BK538 := am (blk_below (g := gb538) (o := .cells #[.string t531, .slice Ao9 t532.length co9] 38 (0, 0)) (zp BK538) hb); replace HB := am (below_step (zb HB) hb); (try clear hb); (try clear hb2); (try clear hk); (try clear hi))))
 (try simp only [Act.put, List.setIfInBounds_toArray, List.set_cons_zero, List.set_cons_succ])
 go_cut [28] (fun v28 wc => ∃ (kq : Nat) (x28_4 : Bool), v28 = .bool x28_4 ∧ Aside0 (laws_FnVolText.j0 kq t535 t539 x28_4 t531 t532 = some r) ∧ Aside0 (kq ≤ k) ∧ Aside0 (Kd.R k55 55 wc w.heap.size (fun _ => True) (.slice Ao10 t535.length co10) t535) ∧ Aside0 (Kd.Q (Kd.int .i64) 3 wc w.heap.size (fun _ => True) (.slice Ao9 t532.length co9) t532) ∧ Aside0 (wc.heap[gb538]? = some (.cells #[.string t531, (.slice Ao9 t532.length co9)] 38 (0, 0))) ∧ Aside0 (Below w.heap.size w wc))
 case first =>
  have H := HC5.out
  clear HC5
  replace H := obs H
  obtain ⟨t540, A120, H⟩ := H
  replace H : (if t539.toList = t540.toList then (laws_FnVolText.j0 k t535 t539 (t539.toList == ([] : List UInt8)) t531 t532) else (laws_FnVolText.j0 k t535 t539 true t531 t532)) = some r := H
  have A12 := am A120
  clear A120
  by_cases c13 : t539.toList = t540.toList
  · rw [if_pos c13] at H
    have c13b0 : (t539.toList == t540.toList) = true := beq_iff_eq.mpr c13
    have c13b1 : (t539.toList != t540.toList) = false := bne_eq_false_iff_eq.mpr c13
    clear c13
    (first | rw [c13b0] | (simp only [i64_w, i32_w]; rw [c13b0]) | skip)
    have H' := am H
    clear H
    have hcz14_0 := ce0 BK538
    have hcz14_1 := ce1 BK538
    have hfz14_0 := bfz BK538 0
    have hfz14_1 := bfz BK538 1
    go_wp2_with (first | (go_at_call 31; (with_reducible refine (spec_VolText.calls k t531 _ _ t532 _ _ t535 t540 _ ?side1 ?side2 ?side3 ?side4 A12.out).mono ?_); (case side1 => exact zc (Kd.Q_reads' HO534.out).2.2); (case side2 => exact (Kd.Q_reads' HO534.out).2.1); (case side3 => exact zc (Kd.R_reads' HO537.out).2.2); (case side4 => exact (Kd.R_reads' HO537.out).2.1); rintro e w15 ⟨rfl, hb⟩; replace HO534 := am (Kd.Q_below (by (with_reducible repeat (first | apply Kd.Q_alloc | apply Kd.Q_drewN | apply Kd.Q_drew)); exact HO534.out) hb); replace HO537 := am (Kd.R_below (zr HO537) hb); replace BK538 := am (blk_below (zk BK538) hb); replace HB := am (below_step (zb HB) hb); (try clear hb); (try clear hb2); (try clear hk); (try clear hi)))
    repeat (go_quiet (first | (go_at_call 31; (with_reducible refine (spec_VolText.calls k t531 _ _ t532 _ _ t535 t540 _ ?side1 ?side2 ?side3 ?side4 A12.out).mono ?_); (case side1 => exact zc (Kd.Q_reads' HO534.out).2.2); (case side2 => exact (Kd.Q_reads' HO534.out).2.1); (case side3 => exact zc (Kd.R_reads' HO537.out).2.2); (case side4 => exact (Kd.R_reads' HO537.out).2.1); rintro e w15 ⟨rfl, hb⟩; replace HO534 := am (Kd.Q_below (by (with_reducible repeat (first | apply Kd.Q_alloc | apply Kd.Q_drewN | apply Kd.Q_drew)); exact HO534.out) hb); replace HO537 := am (Kd.R_below (zr HO537) hb); replace BK538 := am (blk_below (zk BK538) hb); replace HB := am (below_step (zb HB) hb); (try clear hb); (try clear hb2); (try clear hk); (try clear hi))); try go_wp2_with (first | (go_at_call 31; (with_reducible refine (spec_VolText.calls k t531 _ _ t532 _ _ t535 t540 _ ?side1 ?side2 ?side3 ?side4 A12.out).mono ?_); (case side1 => exact zc (Kd.Q_reads' HO534.out).2.2); (case side2 => exact (Kd.Q_reads' HO534.out).2.1); (case side3 => exact zc (Kd.R_reads' HO537.out).2.2); (case side4 => exact (Kd.R_reads' HO537.out).2.1); rintro e w15 ⟨rfl, hb⟩; replace HO534 := am (Kd.Q_below (by (with_reducible repeat (first | apply Kd.Q_alloc | apply Kd.Q_drewN | apply Kd.Q_drew)); exact HO534.out) hb); replace HO537 := am (Kd.R_below (zr HO537) hb); replace BK538 := am (blk_below (zk BK538) hb); replace HB := am (below_step (zb HB) hb); (try clear hb); (try clear hb2); (try clear hk); (try clear hi))))
    go_meet
    case rel => exact ⟨_, ((t539.toList == ([] : List UInt8))), ze, H', ⟨by first | omega | exact Nat.le_refl _⟩, ⟨zr HO537⟩, ⟨by (with_reducible repeat (first | apply Kd.Q_alloc | apply Kd.Q_drewN | apply Kd.Q_drew)); exact HO534.out⟩, ⟨zk BK538⟩, ⟨zb HB⟩⟩
  rw [if_neg c13] at H
  have c13b0 : (t539.toList == t540.toList) = false := beq_eq_false_iff_ne.mpr c13
  have c13b1 : (t539.toList != t540.toList) = true := bne_iff_ne.mpr c13
  (first | rw [c13b0] | (simp only [i64_w, i32_w]; rw [c13b0]) | skip)
  have H' := am H
  clear H
  have hcz16_0 := ce0 BK538
  have hcz16_1 := ce1 BK538
  have hfz16_0 := bfz BK538 0
  have hfz16_1 := bfz BK538 1
  go_wp2_with (first | (go_at_call 31; (with_reducible refine (spec_VolText.calls k t531 _ _ t532 _ _ t535 t540 _ ?side1 ?side2 ?side3 ?side4 A12.out).mono ?_); (case side1 => exact zc (Kd.Q_reads' HO534.out).2.2); (case side2 => exact (Kd.Q_reads' HO534.out).2.1); (case side3 => exact zc (Kd.R_reads' HO537.out).2.2); (case side4 => exact (Kd.R_reads' HO537.out).2.1); rintro e w17 ⟨rfl, hb⟩; replace HO534 := am (Kd.Q_below (by (with_reducible repeat (first | apply Kd.Q_alloc | apply Kd.Q_drewN | apply Kd.Q_drew)); exact HO534.out) hb); replace HO537 := am (Kd.R_below (zr HO537) hb); replace BK538 := am (blk_below (zk BK538) hb); replace HB := am (below_step (zb HB) hb); (try clear hb); (try clear hb2); (try clear hk); (try clear hi)))
  repeat (go_quiet (first | (go_at_call 31; (with_reducible refine (spec_VolText.calls k t531 _ _ t532 _ _ t535 t540 _ ?side1 ?side2 ?side3 ?side4 A12.out).mono ?_); (case side1 => exact zc (Kd.Q_reads' HO534.out).2.2); (case side2 => exact (Kd.Q_reads' HO534.out).2.1); (case side3 => exact zc (Kd.R_reads' HO537.out).2.2); (case side4 => exact (Kd.R_reads' HO537.out).2.1); rintro e w17 ⟨rfl, hb⟩; replace HO534 := am (Kd.Q_below (by (with_reducible repeat (first | apply Kd.Q_alloc | apply Kd.Q_drewN | apply Kd.Q_drew)); exact HO534.out) hb); replace HO537 := am (Kd.R_below (zr HO537) hb); replace BK538 := am (blk_below (zk BK538) hb); replace HB := am (below_step (zb HB) hb); (try clear hb); (try clear hb2); (try clear hk); (try clear hi))); try go_wp2_with (first | (go_at_call 31; (with_reducible refine (spec_VolText.calls k t531 _ _ t532 _ _ t535 t540 _ ?side1 ?side2 ?side3 ?side4 A12.out).mono ?_); (case side1 => exact zc (Kd.Q_reads' HO534.out).2.2); (case side2 => exact (Kd.Q_reads' HO534.out).2.1); (case side3 => exact zc (Kd.R_reads' HO537.out).2.2); (case side4 => exact (Kd.R_reads' HO537.out).2.1); rintro e w17 ⟨rfl, hb⟩; replace HO534 := am (Kd.Q_below (by (with_reducible repeat (first | apply Kd.Q_alloc | apply Kd.Q_drewN | apply Kd.Q_drew)); exact HO534.out) hb); replace HO537 := am (Kd.R_below (zr HO537) hb); replace BK538 := am (blk_below (zk BK538) hb); replace HB := am (below_step (zb HB) hb); (try clear hb); (try clear hb2); (try clear hk); (try clear hi))))
  go_meet
  case rel => exact ⟨_, (true), ze, H', ⟨by first | omega | exact Nat.le_refl _⟩, ⟨zr HO537⟩, ⟨by (with_reducible repeat (first | apply Kd.Q_alloc | apply Kd.Q_drewN | apply Kd.Q_drew)); exact HO534.out⟩, ⟨zk BK538⟩, ⟨zb HB⟩⟩
 clear HC5
 try clear c1
 try clear c2
 try clear c2b0
 try clear c2b1
 try clear p2
 try clear c9
 try clear c13
 try clear c13b0
 try clear c13b1
 try clear hcz14_0
 try clear hcz14_1
 try clear hcz16_0
 try clear hcz16_1
 try clear hcz8_0
 try clear hcz8_1
 try clear hfz14_0
 try clear hfz14_1
 try clear hfz16_0
 try clear hfz16_1
 try clear hfz8_0
 try clear hfz8_1
 obtain ⟨kq, x28_4, rfl, HA, HJ4, HO_4, HO_539001, BK538, HB⟩ := hcut
 cases kq with
 | zero => exact absurd HA.out (by simp [laws_FnVolText.j0])
 | succ kj4 =>
  have H := HA.out
  clear HA
  simp only [laws_FnVolText.j0] at H
  by_cases c18 : x28_4 = true
  · subst c18
    have H1 : ((spec_VolText.f kj4 t531 t532 t535).bind fun t541 => (some (t539.toList == t541.toList))) = some r := by rw [if_pos rfl] at H; exact H
    clear H
    have H := H1
    clear H1
    replace H := obs H
    obtain ⟨t541, A190, H⟩ := H
    replace H : (some (t539.toList == t541.toList)) = some r := H
    have A19 := am A190
    clear A190
    obtain rfl := Option.some.inj H
    have hcz20_0 := ce0 BK538
    have hcz20_1 := ce1 BK538
    have hfz20_0 := bfz BK538 0
    have hfz20_1 := bfz BK538 1
    go_wp2_with (first | (go_at_call 31; (with_reducible refine (spec_VolText.calls kj4 t531 _ _ t532 _ _ t535 t541 _ ?side1 ?side2 ?side3 ?side4 A19.out).mono ?_); (case side1 => exact zc (Kd.Q_reads' HO_539001.out).2.2); (case side2 => exact (Kd.Q_reads' HO_539001.out).2.1); (case side3 => exact zc (Kd.R_reads' HO_4.out).2.2); (case side4 => exact (Kd.R_reads' HO_4.out).2.1); rintro e w21 ⟨rfl, hb⟩; replace HO_4 := am (Kd.R_below (zr HO_4) hb); replace HO_539001 := am (Kd.Q_below (by (with_reducible repeat (first | apply Kd.Q_alloc | apply Kd.Q_drewN | apply Kd.Q_drew)); exact HO_539001.out) hb); replace BK538 := am (blk_below (zk BK538) hb); replace HB := am (below_step (zb HB) hb); (try clear hb); (try clear hb2); (try clear hk); (try clear hi)))
    repeat (go_quiet (first | (go_at_call 31; (with_reducible refine (spec_VolText.calls kj4 t531 _ _ t532 _ _ t535 t541 _ ?side1 ?side2 ?side3 ?side4 A19.out).mono ?_); (case side1 => exact zc (Kd.Q_reads' HO_539001.out).2.2); (case side2 => exact (Kd.Q_reads' HO_539001.out).2.1); (case side3 => exact zc (Kd.R_reads' HO_4.out).2.2); (case side4 => exact (Kd.R_reads' HO_4.out).2.1); rintro e w21 ⟨rfl, hb⟩; replace HO_4 := am (Kd.R_below (zr HO_4) hb); replace HO_539001 := am (Kd.Q_below (by (with_reducible repeat (first | apply Kd.Q_alloc | apply Kd.Q_drewN | apply Kd.Q_drew)); exact HO_539001.out) hb); replace BK538 := am (blk_below (zk BK538) hb); replace HB := am (below_step (zb HB) hb); (try clear hb); (try clear hb2); (try clear hk); (try clear hi))); try go_wp2_with (first | (go_at_call 31; (with_reducible refine (spec_VolText.calls kj4 t531 _ _ t532 _ _ t535 t541 _ ?side1 ?side2 ?side3 ?side4 A19.out).mono ?_); (case side1 => exact zc (Kd.Q_reads' HO_539001.out).2.2); (case side2 => exact (Kd.Q_reads' HO_539001.out).2.1); (case side3 => exact zc (Kd.R_reads' HO_4.out).2.2); (case side4 => exact (Kd.R_reads' HO_4.out).2.1); rintro e w21 ⟨rfl, hb⟩; replace HO_4 := am (Kd.R_below (zr HO_4) hb); replace HO_539001 := am (Kd.Q_below (by (with_reducible repeat (first | apply Kd.Q_alloc | apply Kd.Q_drewN | apply Kd.Q_drew)); exact HO_539001.out) hb); replace BK538 := am (blk_below (zk BK538) hb); replace HB := am (below_step (zb HB) hb); (try clear hb); (try clear hb2); (try clear hk); (try clear hi))))
    go_ret
    exact ⟨zv, (zb HB)⟩
  replace c18 := Bool.eq_false_iff.mpr c18
  subst c18
  have H1 : (laws_FnVolText.l0 kj4 t535 t539 0 0 t531 t532) = some r := by rw [if_neg (show ¬ (false = true) by decide)] at H; exact H
  clear H
  have H := H1
  clear H1
  have H' := am H
  clear H
  go_wp2
  repeat (go_quiet (fail); try go_wp2)
  go_loopg [6, 7] kj4 (fun kq v6 v7 w' => ∃ (x6_2 : Int) (x7_2 : Int), v6 = .int .i64 x6_2 ∧ v7 = .int .i64 x7_2 ∧ Aside0 (laws_FnVolText.l0 kq t535 t539 x6_2 x7_2 t531 t532 = some r) ∧ Aside0 (kq ≤ kj4) ∧ Aside0 (Kd.R k55 55 w' w.heap.size (fun _ => True) (.slice Ao10 t535.length co10) t535) ∧ Aside0 (Kd.Q (Kd.int .i64) 3 w' w.heap.size (fun _ => True) (.slice Ao9 t532.length co9) t532) ∧ Aside0 (w'.heap[gb538]? = some (.cells #[.string t531, (.slice Ao9 t532.length co9)] 38 (0, 0))) ∧ Aside0 (Below w.heap.size w w'))
  case atStart => exact ⟨(0), (0), ze, ze, H', ⟨Nat.le_refl _⟩, ⟨zr HO_4⟩, ⟨by (with_reducible repeat (first | apply Kd.Q_alloc | apply Kd.Q_drewN | apply Kd.Q_drew)); exact HO_539001.out⟩, ⟨zk BK538⟩, ⟨zb HB⟩⟩
  case round =>
   clear H'
   try clear c1
   try clear c2
   try clear c2b0
   try clear c2b1
   try clear p2
   try clear c9
   try clear c13
   try clear c13b0
   try clear c13b1
   try clear c18
   try clear hcz14_0
   try clear hcz14_1
   try clear hcz16_0
   try clear hcz16_1
   try clear hcz20_0
   try clear hcz20_1
   try clear hcz8_0
   try clear hcz8_1
   try clear hfz14_0
   try clear hfz14_1
   try clear hfz16_0
   try clear hfz16_1
   try clear hfz20_0
   try clear hfz20_1
   try clear hfz8_0
   try clear hfz8_1
   try clear p2
   obtain ⟨x6_2, x7_2, rfl, rfl, HA, HK2, HO_4, HO_539001, BK538, HB⟩ := hrel
   cases gk with
   | zero => exact absurd HA.out (by simp [laws_FnVolText.l0])
   | succ k2 =>
    have H := HA.out
    clear HA
    simp only [laws_FnVolText.l0] at H
    by_cases c22 : x7_2 < (t539.size : Int)
    · rw [if_pos c22] at H
      have c22b0 : decide (x7_2 < (t539.size : Int)) = true := decide_eq_true c22
      clear c22
      by_cases c23 : 0 ≤ x7_2
      rotate_left
      · rw [if_neg c23] at H
        exact absurd H (by simp)
      rw [if_pos c23] at H
      have c23b0 : decide (0 ≤ x7_2) = true := decide_eq_true c23
      clear c23
      by_cases c25 : (bt t539 x7_2) = 32
      · rw [if_pos c25] at H
        have c25b0 : ((bt t539 x7_2) == 32) = true := beq_iff_eq.mpr c25
        have c25b1 : ((bt t539 x7_2) != 32) = false := bne_eq_false_iff_eq.mpr c25
        clear c25
        have H' := am H
        clear H
        have p24 : 0 ≤ (x7_2 : Int) := of_decide_eq_true zl
        have q24 : x7_2 < (t539.size : Int) := of_decide_eq_true zl
        have hx24 := bt_at t539 x7_2
        replace p24 := eq_true p24
        replace q24 := eq_true q24
        go_wp2
        repeat (go_quiet (fail); try go_wp2)
        go_roundg k2
        case measure => have := HJ4.out; have := HK2.out; omega
        case rel => exact ⟨(wrap64 (x6_2 + 1)), (wrap64 (x7_2 + 1)), ze, ze, H', ⟨by have := HJ4.out; have := HK2.out; omega⟩, ⟨zr HO_4⟩, ⟨by (with_reducible repeat (first | apply Kd.Q_alloc | apply Kd.Q_drewN | apply Kd.Q_drew)); exact HO_539001.out⟩, ⟨zk BK538⟩, ⟨zb HB⟩⟩
      rw [if_neg c25] at H
      have c25b0 : ((bt t539 x7_2) == 32) = false := beq_eq_false_iff_ne.mpr c25
      have c25b1 : ((bt t539 x7_2) != 32) = true := bne_iff_ne.mpr c25
      have H' := am H
      clear H
      have p24 : 0 ≤ (x7_2 : Int) := of_decide_eq_true zl
      have q24 : x7_2 < (t539.size : Int) := of_decide_eq_true zl
      have hx24 := bt_at t539 x7_2
      replace p24 := eq_true p24
      replace q24 := eq_true q24
      go_wp2
      repeat (go_quiet (fail); try go_wp2)
      go_roundg k2
      case measure => have := HJ4.out; have := HK2.out; omega
      case rel => exact ⟨(x6_2), (wrap64 (x7_2 + 1)), ze, ze, H', ⟨by have := HJ4.out; have := HK2.out; omega⟩, ⟨zr HO_4⟩, ⟨by (with_reducible repeat (first | apply Kd.Q_alloc | apply Kd.Q_drewN | apply Kd.Q_drew)); exact HO_539001.out⟩, ⟨zk BK538⟩, ⟨zb HB⟩⟩
    rw [if_neg c22] at H
    have c22b0 : decide (x7_2 < (t539.size : Int)) = false := decide_eq_false c22
    clear c22
    obtain ⟨y542, hy542⟩ : ∃ y_ : List Int, y_ = (([0, 0] : List Int)) := ⟨_, rfl⟩
    replace H : ((impl_VolText.f k2 (⟨#[65]⟩ : ByteArray) y542 t535).bind fun t545 => (if x6_2 = (t532.length : Int) then (if 0 ≤ 1 then (if 1 ≤ (t539.size : Int) then (if (t539.extract 0 1).toList = t531.toList then (some (t545.toList == ([65, 32, 45, 32, 45] : List UInt8))) else (some false)) else (none)) else (none)) else (some false))) = some r := hY hy542 H
    have Ny542 := am hy542
    clear hy542
    replace H := obs H
    obtain ⟨t545, A260, H⟩ := H
    replace H : (if x6_2 = (t532.length : Int) then (if 0 ≤ 1 then (if 1 ≤ (t539.size : Int) then (if (t539.extract 0 1).toList = t531.toList then (some (t545.toList == ([65, 32, 45, 32, 45] : List UInt8))) else (some false)) else (none)) else (none)) else (some false)) = some r := H
    have A26 := am A260
    clear A260
    by_cases c27 : x6_2 = (t532.length : Int)
    rotate_left
    · rw [if_neg c27] at H
      have c27b0 : (x6_2 == (t532.length : Int)) = false := beq_eq_false_iff_ne.mpr c27
      have c27b1 : (x6_2 != (t532.length : Int)) = true := bne_iff_ne.mpr c27
      exact Bool.noConfusion ((Option.some.inj H).trans hr_)
    rw [if_pos c27] at H
    have c27b0 : (x6_2 == (t532.length : Int)) = true := beq_iff_eq.mpr c27
    have c27b1 : (x6_2 != (t532.length : Int)) = false := bne_eq_false_iff_eq.mpr c27
    clear c27
    by_cases c28 : 0 ≤ 1
    rotate_left
    · rw [if_neg c28] at H
      exact absurd H (by simp)
    rw [if_pos c28] at H
    have c28b0 := eq_true c28
    have c28b1 : decide (0 ≤ 1) = true := decide_eq_true c28
    clear c28
    by_cases c29 : 1 ≤ (t539.size : Int)
    rotate_left
    · rw [if_neg c29] at H
      exact absurd H (by simp)
    rw [if_pos c29] at H
    have c29b0 := eq_true c29
    have c29b1 : decide (1 ≤ (t539.size : Int)) = true := decide_eq_true c29
    clear c29
    by_cases c30 : (t539.extract 0 1).toList = t531.toList
    rotate_left
    · rw [if_neg c30] at H
      have c30b0 : ((t539.extract 0 1).toList == t531.toList) = false := beq_eq_false_iff_ne.mpr c30
      have c30b1 : ((t539.extract 0 1).toList != t531.toList) = true := bne_iff_ne.mpr c30
      exact Bool.noConfusion ((Option.some.inj H).trans hr_)
    rw [if_pos c30] at H
    have c30b0 : ((t539.extract 0 1).toList == t531.toList) = true := beq_iff_eq.mpr c30
    have c30b1 : ((t539.extract 0 1).toList != t531.toList) = false := bne_eq_false_iff_eq.mpr c30
    clear c30
    obtain rfl := Option.some.inj H
    go_wp2_with (first | ((with_reducible refine gate_dst (N := 46) rfl ?_); refine Kd.R_lit (Kd.int .i64) _ 3 ?hg (N := 46) ?hd (xs := ([0, 0] : List Int)) (inner := [.int .i64 0, .int .i64 0]) (ok := fun _ => True) (okp := fun _ => True) ?hr ?hp (fun _ hk => hk) trivial (Below.refl _ _) (Nat.le_refl _) (by simp) ?_; (case hd => rfl); (case hg => rfl); (case hr => first | (go_simp; done) | (go_simp; rfl)); (case hp => exact (Reps.one (show Kd.M (Kd.int .i64) _ _ _ 0 [.int .i64 0] from rfl) (Reps.one (show Kd.M (Kd.int .i64) _ _ _ 0 [.int .i64 0] from rfl) (Reps.none _ _)))); intro v543 w31 ho32 hb hg_ hnew_; clear hg_ hnew_; (first | rw [← Ny542.out] at ho32 | (simp only [Int.reduceToNat] at ho32; rw [← Ny542.out] at ho32)); replace HO_4 := am (Kd.R_below (zr HO_4) hb); have HO544 := am (Kd.R_lower (Kd.R_new' ho32 (Kd.Q_lt (by (with_reducible repeat (first | apply Kd.Q_alloc | apply Kd.Q_drewN | apply Kd.Q_drew)); exact HO_539001.out))) (below_size (zb HB))); replace HO_539001 := am (Kd.Q_elder' (by (with_reducible repeat (first | apply Kd.Q_alloc | apply Kd.Q_drewN | apply Kd.Q_drew)); exact HO_539001.out) (Kd.R_base ho32) hb); replace BK538 := am (blk_below (zk BK538) hb); replace HB := am (below_step (zb HB) hb); clear hb ho32; obtain ⟨Ao33, co33, eo33⟩ := Kd.R_slice HO544.out; subst eo33) | (go_at_call 30; (with_reducible refine (impl_VolText.calls k2 (⟨#[65]⟩ : ByteArray) _ _ y542 _ _ t535 t545 _ ?side1 ?side2 ?side3 ?side4 A26.out).mono ?_); (case side1 => exact zc (Kd.R_reads' HO544.out).2.2); (case side2 => exact (Kd.R_reads' HO544.out).2.1); (case side3 => exact zc (Kd.R_reads' HO_4.out).2.2); (case side4 => exact (Kd.R_reads' HO_4.out).2.1); rintro e w34 ⟨rfl, hb⟩; replace HO_4 := am (Kd.R_below (zr HO_4) hb); replace HO_539001 := am (Kd.Q_below (by (with_reducible repeat (first | apply Kd.Q_alloc | apply Kd.Q_drewN | apply Kd.Q_drew)); exact HO_539001.out) hb); replace HO544 := am (Kd.R_below (zr HO544) hb); replace BK538 := am (blk_below (zk BK538) hb); replace HB := am (below_step (zb HB) hb); (try clear hb); (try clear hb2); (try clear hk); (try clear hi); have hcz35_0 := ce0 BK538; have hcz35_1 := ce1 BK538; have hfz35_0 := bfz BK538 0; have hfz35_1 := bfz BK538 1))
    repeat (go_quiet (first | ((with_reducible refine gate_dst (N := 46) rfl ?_); refine Kd.R_lit (Kd.int .i64) _ 3 ?hg (N := 46) ?hd (xs := ([0, 0] : List Int)) (inner := [.int .i64 0, .int .i64 0]) (ok := fun _ => True) (okp := fun _ => True) ?hr ?hp (fun _ hk => hk) trivial (Below.refl _ _) (Nat.le_refl _) (by simp) ?_; (case hd => rfl); (case hg => rfl); (case hr => first | (go_simp; done) | (go_simp; rfl)); (case hp => exact (Reps.one (show Kd.M (Kd.int .i64) _ _ _ 0 [.int .i64 0] from rfl) (Reps.one (show Kd.M (Kd.int .i64) _ _ _ 0 [.int .i64 0] from rfl) (Reps.none _ _)))); intro v543 w31 ho32 hb hg_ hnew_; clear hg_ hnew_; (first | rw [← Ny542.out] at ho32 | (simp only [Int.reduceToNat] at ho32; rw [← Ny542.out] at ho32)); replace HO_4 := am (Kd.R_below (zr HO_4) hb); have HO544 := am (Kd.R_lower (Kd.R_new' ho32 (Kd.Q_lt (by (with_reducible repeat (first | apply Kd.Q_alloc | apply Kd.Q_drewN | apply Kd.Q_drew)); exact HO_539001.out))) (below_size (zb HB))); replace HO_539001 := am (Kd.Q_elder' (by (with_reducible repeat (first | apply Kd.Q_alloc | apply Kd.Q_drewN | apply Kd.Q_drew)); exact HO_539001.out) (Kd.R_base ho32) hb); replace BK538 := am (blk_below (zk BK538) hb); replace HB := am (below_step (zb HB) hb); clear hb ho32; obtain ⟨Ao33, co33, eo33⟩ := Kd.R_slice HO544.out; subst eo33) | (go_at_call 30; (with_reducible refine (impl_VolText.calls k2 (⟨#[65]⟩ : ByteArray) _ _ y542 _ _ t535 t545 _ ?side1 ?side2 ?side3 ?side4 A26.out).mono ?_); (case side1 => exact zc (Kd.R_reads' HO544.out).2.2); (case side2 => exact (Kd.R_reads' HO544.out).2.1); (case side3 => exact zc (Kd.R_reads' HO_4.out).2.2); (case side4 => exact (Kd.R_reads' HO_4.out).2.1); rintro e w34 ⟨rfl, hb⟩; replace HO_4 := am (Kd.R_below (zr HO_4) hb); replace HO_539001 := am (Kd.Q_below (by (with_reducible repeat (first | apply Kd.Q_alloc | apply Kd.Q_drewN | apply Kd.Q_drew)); exact HO_539001.out) hb); replace HO544 := am (Kd.R_below (zr HO544) hb); replace BK538 := am (blk_below (zk BK538) hb); replace HB := am (below_step (zb HB) hb); (try clear hb); (try clear hb2); (try clear hk); (try clear hi); have hcz35_0 := ce0 BK538; have hcz35_1 := ce1 BK538; have hfz35_0 := bfz BK538 0; have hfz35_1 := bfz BK538 1)); try go_wp2_with (first | ((with_reducible refine gate_dst (N := 46) rfl ?_); refine Kd.R_lit (Kd.int .i64) _ 3 ?hg (N := 46) ?hd (xs := ([0, 0] : List Int)) (inner := [.int .i64 0, .int .i64 0]) (ok := fun _ => True) (okp := fun _ => True) ?hr ?hp (fun _ hk => hk) trivial (Below.refl _ _) (Nat.le_refl _) (by simp) ?_; (case hd => rfl); (case hg => rfl); (case hr => first | (go_simp; done) | (go_simp; rfl)); (case hp => exact (Reps.one (show Kd.M (Kd.int .i64) _ _ _ 0 [.int .i64 0] from rfl) (Reps.one (show Kd.M (Kd.int .i64) _ _ _ 0 [.int .i64 0] from rfl) (Reps.none _ _)))); intro v543 w31 ho32 hb hg_ hnew_; clear hg_ hnew_; (first | rw [← Ny542.out] at ho32 | (simp only [Int.reduceToNat] at ho32; rw [← Ny542.out] at ho32)); replace HO_4 := am (Kd.R_below (zr HO_4) hb); have HO544 := am (Kd.R_lower (Kd.R_new' ho32 (Kd.Q_lt (by (with_reducible repeat (first | apply Kd.Q_alloc | apply Kd.Q_drewN | apply Kd.Q_drew)); exact HO_539001.out))) (below_size (zb HB))); replace HO_539001 := am (Kd.Q_elder' (by (with_reducible repeat (first | apply Kd.Q_alloc | apply Kd.Q_drewN | apply Kd.Q_drew)); exact HO_539001.out) (Kd.R_base ho32) hb); replace BK538 := am (blk_below (zk BK538) hb); replace HB := am (below_step (zb HB) hb); clear hb ho32; obtain ⟨Ao33, co33, eo33⟩ := Kd.R_slice HO544.out; subst eo33) | (go_at_call 30; (with_reducible refine (impl_VolText.calls k2 (⟨#[65]⟩ : ByteArray) _ _ y542 _ _ t535 t545 _ ?side1 ?side2 ?side3 ?side4 A26.out).mono ?_); (case side1 => exact zc (Kd.R_reads' HO544.out).2.2); (case side2 => exact (Kd.R_reads' HO544.out).2.1); (case side3 => exact zc (Kd.R_reads' HO_4.out).2.2); (case side4 => exact (Kd.R_reads' HO_4.out).2.1); rintro e w34 ⟨rfl, hb⟩; replace HO_4 := am (Kd.R_below (zr HO_4) hb); replace HO_539001 := am (Kd.Q_below (by (with_reducible repeat (first | apply Kd.Q_alloc | apply Kd.Q_drewN | apply Kd.Q_drew)); exact HO_539001.out) hb); replace HO544 := am (Kd.R_below (zr HO544) hb); replace BK538 := am (blk_below (zk BK538) hb); replace HB := am (below_step (zb HB) hb); (try clear hb); (try clear hb2); (try clear hk); (try clear hi); have hcz35_0 := ce0 BK538; have hcz35_1 := ce1 BK538; have hfz35_0 := bfz BK538 0; have hfz35_1 := bfz BK538 1)))
    go_ret
    exact ⟨zv, (zb HB)⟩
/-- THE ONE PURE STATEMENT of laws_FnVolText: yours. -/
def laws_FnVolText.Pure : Prop := ∀ (l0 : List Int), l0.length ≤ maxLen → l0.length * 1 ≤ 140737488351232 → (∀ x ∈ l0, (Lit.int .u8 x).wf = true) → ∃ k, laws_FnVolText.f k l0 = some true
theorem laws_FnVolText.walk (P : laws_FnVolText.Pure) (a0 : Option Addr) (len0 cap0 : Nat) (z0 : List Int) (w : World) (w0 : (a0 = none ∧ len0 = 0 ∧ cap0 = 0 ∧ z0 = []) ∨ ∃ x, a0 = some x ∧ len0 ≤ cap0 ∧ cap0 ≤ maxLen ∧ z0.length = cap0 ∧ (∀ i, i < z0.length → w.cell? (x.add i) = some (.int .u8 (z0.getD i 0))) ∧ ∀ n ∈ z0, (Lit.int .u8 n).wf = true) (y0 : len0 * 1 ≤ 140737488351232) :
 Calls Try.prog 9 #[.slice a0 len0 cap0] w fun e w' => e = .returned (.bool true) ∧ Below w.heap.size w w' := by
 obtain ⟨l0, rfl, hr0, hm0, hw0, hc0⟩ := ReadsInt.ofRowC w0
 obtain ⟨k, h⟩ := P l0 hm0 y0 hw0
 refine (laws_FnVolText.calls k _ _ l0 true w (Kd.C_of_reads (d := (0 : Int)) (h1 := fun _ => rfl) hr0) hc0 h rfl).mono ?_
 rintro e w' ⟨rfl, hd⟩
 exact ⟨rfl, hd⟩
end Go.Proofs.Ytooamacekmjpaaa.PFnVolText
