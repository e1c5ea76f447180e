/- The walk: each function that the law comes to as a plain Lean function, and a proof that the Go code answers so. Written by this session's program over the kit's printer. -/
import Derived.Test.YtooamacekmjpaaaZ
import Derived.Test.YtooamacekmjpaaaQFnPoolText0
import Derived.Test.YtooamacekmjpaaaQFnPoolText6
import Derived.Test.YtooamacekmjpaaaQFnPoolText7
namespace Go.Proofs.Ytooamacekmjpaaa.PFnPoolText
open Go.RowKit Go.Proofs.YtooamacekmjpaaaW.PrintWords Go.Proofs.YtooamacekmjpaaaW.PrintLast Go.Proofs.YtooamacekmjpaaaW.PrintMore
attribute [local go_sem] max2_int min2_int max_two min_two max_three min_three max_four min_four   -- for this text's walks alone
set_option linter.unusedVariables false
set_option linter.unusedSimpArgs false
/-! ### impl_VolText: function 30 -/
mutual
def impl_VolText.j0 : Nat → List (S55) → Bool → ByteArray → List Int → Option (ByteArray)
 | 0, _, _, _, _ => none
 | k + 1, x1, x16, x161000, x161001 => if x16 = true then (some (⟨#[]⟩ : ByteArray)) else (impl_VolText.l0 k x1 x161000 x161001 (x161001.length : Int) 0)
def impl_VolText.l0 : Nat → List (S55) → ByteArray → List Int → Int → Int → Option (ByteArray)
 | 0, _, _, _, _, _ => none
 | k + 1, x1, x5, x20, x21, x22 => if x22 < x21 then (if 0 ≤ x22 then (if x22 < (x20.length : Int) then (if (rd x20 x22) > 0 then (if 0 ≤ (wrap64 ((rd x20 x22) - 1)) then (if (wrap64 ((rd x20 x22) - 1)) < (x1.length : Int) then (if ((rd_T55 x1 (wrap64 ((rd x20 x22) - 1))).f1) > 0 then (if 1 + ((rd_T55 x1 (wrap64 ((rd x20 x22) - 1))).f0).size ≤ 9223372036854775807 then (if x5.size + ((⟨#[32]⟩ : ByteArray) ++ ((rd_T55 x1 (wrap64 ((rd x20 x22) - 1))).f0)).size ≤ 9223372036854775807 then (impl_VolText.l0 k x1 (x5 ++ ((⟨#[32]⟩ : ByteArray) ++ ((rd_T55 x1 (wrap64 ((rd x20 x22) - 1))).f0))) x20 x21 (wrap64 (x22 + 1))) else (none)) else (none)) else (if 1 + 1 ≤ 9223372036854775807 then (if x5.size + 2 ≤ 9223372036854775807 then (impl_VolText.l0 k x1 (x5 ++ ((⟨#[32]⟩ : ByteArray) ++ (⟨#[45]⟩ : ByteArray))) x20 x21 (wrap64 (x22 + 1))) else (none)) else (none))) else (none)) else (none)) else (if 1 + 1 ≤ 9223372036854775807 then (if x5.size + 2 ≤ 9223372036854775807 then (impl_VolText.l0 k x1 (x5 ++ ((⟨#[32]⟩ : ByteArray) ++ (⟨#[45]⟩ : ByteArray))) x20 x21 (wrap64 (x22 + 1))) else (none)) else (none))) else (none)) else (none)) else (some x5)
end
def impl_VolText.f (k : Nat) (a0_0 : ByteArray) (l0_1 : List Int) (l1 : List (S55)) : Option (ByteArray) := (impl_VolOk.f k a0_0 l0_1).bind fun t161 => (if t161 = true then ((impl_StoreOk.f k l1).bind fun t162 => (impl_VolText.j0 k l1 (!t162) a0_0 l0_1)) else (impl_VolText.j0 k l1 true a0_0 l0_1))
theorem impl_VolText.mono_l : ∀ k, (∀ y0 y1 y2 y3, LeO (impl_VolText.j0 k y0 y1 y2 y3) (impl_VolText.j0 (k + 1) y0 y1 y2 y3)) ∧ (∀ y0 y1 y2 y3 y4, LeO (impl_VolText.l0 k y0 y1 y2 y3 y4) (impl_VolText.l0 (k + 1) y0 y1 y2 y3 y4))
 | 0 => ⟨fun _ _ _ _ r h => by simp [impl_VolText.j0] at h, fun _ _ _ _ _ r h => by simp [impl_VolText.l0] at h⟩
 | k + 1 => by
  obtain ⟨ih0, ih1⟩ := impl_VolText.mono_l k
  refine ⟨?_, ?_⟩
  · intro y0 y1 y2 y3
    unfold impl_VolText.j0
    exact mo4 ih0 ih1 @impl_StoreOk.mono @impl_VolOk.mono
  intro y0 y1 y2 y3 y4
  unfold impl_VolText.l0
  exact mo4 ih0 ih1 @impl_StoreOk.mono @impl_VolOk.mono
theorem impl_VolText.mono : ∀ a0 a1 a2 k, LeO (impl_VolText.f k a0 a1 a2) (impl_VolText.f (k + 1) a0 a1 a2) := by
 intro a0 a1 a2 k
 obtain ⟨ih0, ih1⟩ := impl_VolText.mono_l k
 unfold impl_VolText.f
 exact mo4 ih0 ih1 @impl_StoreOk.mono @impl_VolOk.mono
set_option maxHeartbeats 8000000 in
set_option maxRecDepth 100000 in
theorem impl_VolText.calls (k : Nat) (a0_0 : ByteArray) (A0_1 : Option Addr) (c0_1 : Nat) (l0_1 : List Int) (A1 : Option Addr) (c1 : Nat) (l1 : List (S55)) (r : ByteArray) (w : World) (hr0_1 : Kd.C (Kd.int .i64) w A0_1 l0_1.length l0_1) (hc0_1 : l0_1.length ≤ c0_1) (hr1 : Kd.C k55 w A1 l1.length l1) (hc1 : l1.length ≤ c1) (h : impl_VolText.f k a0_0 l0_1 l1 = some r) :
 Calls Try.prog 30 #[.agg #[.string a0_0, .slice A0_1 l0_1.length c0_1], .slice A1 l1.length c1] w fun e w' => e = .returned (.string r) ∧ Below w.heap.size w w' := by
 have hu38 := Try.underlying38
 have HR0_1 := am hr0_1
 have HC0_1 := am hc0_1
 clear hr0_1 hc0_1
 have HR1 := am hr1
 have HC1 := am hc1
 clear hr1 hc1
 have HB := am (Below.refl w.heap.size w)
 have H : ((impl_VolOk.f k a0_0 l0_1).bind fun t161 => (if t161 = true then ((impl_StoreOk.f k l1).bind fun t162 => (impl_VolText.j0 k l1 (!t162) a0_0 l0_1)) else (impl_VolText.j0 k l1 true a0_0 l0_1))) = some r := h
 clear h
 have HC3 := am H
 clear H
 go_enter Try.func30, Try.ntmps30
 go_upto_region 1 with (first | ((with_reducible refine gate_dst (N := 2) rfl ?_); refine bx 38 #[.string a0_0, .slice A0_1 l0_1.length c0_1] ?_; intro gb160 hg w4 hbox hb; have BK160 := am (hbox); have GW160 := am (zn hg (zb HB)); have GE160 := am (zn hg (zb HB)); replace HB := am (below_step (zb HB) hb); clear hb hbox hg))
 (try simp only [Act.put, List.setIfInBounds_toArray, List.set_cons_zero, List.set_cons_succ])
 go_cut [16] (fun v16 wc => ∃ (kq : Nat) (x16_2 : Bool), v16 = .bool x16_2 ∧ Aside0 (impl_VolText.j0 kq l1 x16_2 a0_0 l0_1 = some r) ∧ Aside0 (kq ≤ k) ∧ Aside0 (wc.heap[gb160]? = some (.cells #[.string a0_0, (.slice A0_1 l0_1.length c0_1)] 38 (0, 0))) ∧ Aside0 (Below w.heap.size w wc))
 case first =>
  have H := HC3.out
  clear HC3
  replace H := obs H
  obtain ⟨t161, A50, H⟩ := H
  replace H : (if t161 = true then ((impl_StoreOk.f k l1).bind fun t162 => (impl_VolText.j0 k l1 (!t162) a0_0 l0_1)) else (impl_VolText.j0 k l1 true a0_0 l0_1)) = some r := H
  have A5 := am A50
  clear A50
  by_cases c6 : t161 = true
  rotate_left
  · replace c6 := Bool.eq_false_iff.mpr c6
    subst c6
    have H1 : (impl_VolText.j0 k l1 true a0_0 l0_1) = some r := by rw [if_neg (show ¬ (false = true) by decide)] at H; exact H
    clear H
    have H := H1
    clear H1
    have H' := am H
    clear H
    have hcz11_0 := ce0 BK160
    have hcz11_1 := ce1 BK160
    have hfz11_0 := bfz BK160 0
    have hfz11_1 := bfz BK160 1
    go_wp2_with (first | ((with_reducible refine gate_callee (f := 20) rfl ?_); refine gl Try.func20 10 #[.agg #[.string a0_0, .slice A0_1 l0_1.length c0_1]] rfl rfl rfl ?_; (with_reducible refine (impl_VolOk.calls k a0_0 _ _ l0_1 false _ ?side1 ?side2 A5.out).mono ?_); (case side1 => exact zc (Kd.C_below HR0_1.out HB.out)); (case side2 => exact HC0_1.out); rintro e w12 ⟨rfl, hb⟩; refine ⟨_, rfl, ?_⟩; replace BK160 := am (blk_below (zk BK160) hb); replace HB := am (below_step (zb HB) hb); (try clear hb); (try clear hb2); (try clear hk); (try clear hi)))
    go_meet
    case rel => exact ⟨_, (true), ze, H', ⟨by first | omega | exact Nat.le_refl _⟩, ⟨zk BK160⟩, ⟨zb HB⟩⟩
  subst c6
  have H1 : ((impl_StoreOk.f k l1).bind fun t162 => (impl_VolText.j0 k l1 (!t162) a0_0 l0_1)) = some r := by rw [if_pos rfl] at H; exact H
  clear H
  have H := H1
  clear H1
  replace H := obs H
  obtain ⟨t162, A70, H⟩ := H
  replace H : (impl_VolText.j0 k l1 (!t162) a0_0 l0_1) = some r := H
  have A7 := am A70
  clear A70
  have H' := am H
  clear H
  have hcz8_0 := ce0 BK160
  have hcz8_1 := ce1 BK160
  have hfz8_0 := bfz BK160 0
  have hfz8_1 := bfz BK160 1
  go_wp2_with (first | ((with_reducible refine gate_callee (f := 20) rfl ?_); refine gl Try.func20 10 #[.agg #[.string a0_0, .slice A0_1 l0_1.length c0_1]] rfl rfl rfl ?_; (with_reducible refine (impl_VolOk.calls k a0_0 _ _ l0_1 true _ ?side1 ?side2 A5.out).mono ?_); (case side1 => exact zc (Kd.C_below HR0_1.out HB.out)); (case side2 => exact HC0_1.out); rintro e w9 ⟨rfl, hb⟩; refine ⟨_, rfl, ?_⟩; replace BK160 := am (blk_below (zk BK160) hb); replace HB := am (below_step (zb HB) hb); (try clear hb); (try clear hb2); (try clear hk); (try clear hi)) | (go_at_call 45; (with_reducible refine (impl_StoreOk.calls k _ _ l1 t162 _ ?side1 ?side2 A7.out).mono ?_); (case side1 => exact zc (Kd.C_below HR1.out HB.out)); (case side2 => exact HC1.out); rintro e w10 ⟨rfl, hb⟩; replace BK160 := am (blk_below (zk BK160) hb); replace HB := am (below_step (zb HB) hb); (try clear hb); (try clear hb2); (try clear hk); (try clear hi)))
  go_meet
  case rel => exact ⟨_, (!t162), ze, H', ⟨by first | omega | exact Nat.le_refl _⟩, ⟨zk BK160⟩, ⟨zb HB⟩⟩
 clear HC3
 try clear c1
 try clear c2
 try clear p2
 try clear c3
 try clear c6
 try clear hcz11_0
 try clear hcz11_1
 try clear hcz8_0
 try clear hcz8_1
 try clear hfz11_0
 try clear hfz11_1
 try clear hfz8_0
 try clear hfz8_1
 obtain ⟨kq, x16_2, rfl, HA, HJ2, BK160, HB⟩ := hcut
 cases kq with
 | zero => exact absurd HA.out (by simp [impl_VolText.j0])
 | succ kj2 =>
  have H := HA.out
  clear HA
  simp only [impl_VolText.j0] at H
  by_cases c13 : x16_2 = true
  · subst c13
    have H1 : (some (⟨#[]⟩ : ByteArray)) = some r := by rw [if_pos rfl] at H; exact H
    clear H
    have H := H1
    clear H1
    obtain rfl := Option.some.inj H
    go_wp2
    go_ret
    exact ⟨zv, (zb HB)⟩
  replace c13 := Bool.eq_false_iff.mpr c13
  subst c13
  have H1 : (impl_VolText.l0 kj2 l1 a0_0 l0_1 (l0_1.length : Int) 0) = some r := by rw [if_neg (show ¬ (false = true) by decide)] at H; exact H
  clear H
  have H := H1
  clear H1
  have H' := am H
  clear H
  have hcz14_0 := ce0 BK160
  have hcz14_1 := ce1 BK160
  have hfz14_0 := bfz BK160 0
  have hfz14_1 := bfz BK160 1
  go_wp2
  go_loopg [5, 22] kj2 (fun kq v5 v22 w' => ∃ (x5_2 : ByteArray) (x22_2 : Int), v5 = .string x5_2 ∧ v22 = .int .i64 x22_2 ∧ Aside0 (impl_VolText.l0 kq l1 x5_2 l0_1 (l0_1.length : Int) x22_2 = some r) ∧ Aside0 (kq ≤ kj2) ∧ Aside0 (w'.heap[gb160]? = some (.cells #[.string a0_0, (.slice A0_1 l0_1.length c0_1)] 38 (0, 0))) ∧ Aside0 (Below w.heap.size w w'))
  case atStart => exact ⟨(a0_0), (0), ze, ze, H', ⟨Nat.le_refl _⟩, ⟨zk BK160⟩, ⟨zb HB⟩⟩
  case round =>
   clear H'
   try clear c1
   try clear c2
   try clear p2
   try clear c3
   try clear c6
   try clear c13
   try clear hcz11_0
   try clear hcz11_1
   try clear hcz14_0
   try clear hcz14_1
   try clear hcz8_0
   try clear hcz8_1
   try clear hfz11_0
   try clear hfz11_1
   try clear hfz14_0
   try clear hfz14_1
   try clear hfz8_0
   try clear hfz8_1
   try clear p2
   obtain ⟨x5_2, x22_2, rfl, rfl, HA, HK2, BK160, HB⟩ := hrel
   cases gk with
   | zero => exact absurd HA.out (by simp [impl_VolText.l0])
   | succ k2 =>
    have H := HA.out
    clear HA
    simp only [impl_VolText.l0] at H
    by_cases c15 : x22_2 < (l0_1.length : Int)
    rotate_left
    · rw [if_neg c15] at H
      have c15b0 : decide (x22_2 < (l0_1.length : Int)) = false := decide_eq_false c15
      clear c15
      obtain rfl := Option.some.inj H
      go_wp2
      go_ret
      exact ⟨zv, (zb HB)⟩
    rw [if_pos c15] at H
    have c15b0 : decide (x22_2 < (l0_1.length : Int)) = true := decide_eq_true c15
    clear c15
    by_cases c16 : 0 ≤ x22_2
    rotate_left
    · rw [if_neg c16] at H
      exact absurd H (by simp)
    rw [if_pos c16] at H
    have c16b0 : decide (0 ≤ x22_2) = true := decide_eq_true c16
    clear c16
    by_cases c17 : x22_2 < (l0_1.length : Int)
    rotate_left
    · rw [if_neg c17] at H
      exact absurd H (by simp)
    rw [if_pos c17] at H
    have c17b0 : decide (x22_2 < (l0_1.length : Int)) = true := decide_eq_true c17
    clear c17
    by_cases c18 : (rd l0_1 x22_2) > 0
    rotate_left
    · rw [if_neg c18] at H
      have c18b0 : decide (0 < (rd l0_1 x22_2)) = false := decide_eq_false c18
      clear c18
      by_cases c27 : 1 + 1 ≤ 9223372036854775807
      rotate_left
      · rw [if_neg c27] at H
        exact absurd H (by simp)
      rw [if_pos c27] at H
      have c27b0 := eq_true c27
      have c27b1 : decide (1 + 1 ≤ 9223372036854775807) = true := decide_eq_true c27
      try have c27b2 : (9223372036854775807 < 1 + 1) = False := eq_false (Nat.not_lt.2 c27)
      by_cases c28 : x5_2.size + 2 ≤ 9223372036854775807
      rotate_left
      · rw [if_neg c28] at H
        exact absurd H (by simp)
      rw [if_pos c28] at H
      have c28b0 := eq_true c28
      have c28b1 : decide (x5_2.size + 2 ≤ 9223372036854775807) = true := decide_eq_true c28
      try have c28b2 : (9223372036854775807 < x5_2.size + 2) = False := eq_false (Nat.not_lt.2 c28)
      have H' := am H
      clear H
      have p163 : 0 ≤ (x22_2 : Int) := of_decide_eq_true zl
      have q163 : x22_2 < (l0_1.length : Int) := of_decide_eq_true zl
      obtain ⟨ad163, e163, hx163_0⟩ := Kd.at_int HR0_1.out x22_2 p163 q163
      cases e163
      replace hx163_0 := hcx HB hx163_0
      replace p163 := eq_true p163
      replace q163 := eq_true q163
      go_wp2
      go_roundg k2
      case measure => have := HJ2.out; have := HK2.out; omega
      case rel => exact ⟨(x5_2 ++ ((⟨#[32]⟩ : ByteArray) ++ (⟨#[45]⟩ : ByteArray))), (wrap64 (x22_2 + 1)), ze, ze, H', ⟨by have := HJ2.out; have := HK2.out; omega⟩, ⟨zk BK160⟩, ⟨zb HB⟩⟩
    rw [if_pos c18] at H
    have c18b0 : decide (0 < (rd l0_1 x22_2)) = true := decide_eq_true c18
    clear c18
    obtain ⟨ji19, hji19⟩ : ∃ j_ : Int, (wrap64 ((rd l0_1 x22_2) - 1)) = j_ := ⟨_, rfl⟩
    replace H : (if 0 ≤ (ji19) then (if (ji19) < (l1.length : Int) then (if ((rd_T55 l1 (ji19)).f1) > 0 then (if 1 + ((rd_T55 l1 (ji19)).f0).size ≤ 9223372036854775807 then (if x5_2.size + ((⟨#[32]⟩ : ByteArray) ++ ((rd_T55 l1 (ji19)).f0)).size ≤ 9223372036854775807 then (impl_VolText.l0 k2 l1 (x5_2 ++ ((⟨#[32]⟩ : ByteArray) ++ ((rd_T55 l1 (ji19)).f0))) l0_1 (l0_1.length : Int) (wrap64 (x22_2 + 1))) else (none)) else (none)) else (if 1 + 1 ≤ 9223372036854775807 then (if x5_2.size + 2 ≤ 9223372036854775807 then (impl_VolText.l0 k2 l1 (x5_2 ++ ((⟨#[32]⟩ : ByteArray) ++ (⟨#[45]⟩ : ByteArray))) l0_1 (l0_1.length : Int) (wrap64 (x22_2 + 1))) else (none)) else (none))) else (none)) else (none)) = some r := by first | (rw [hji19] at H; exact H) | (simp only [hji19] at H ⊢; exact H)
    have hji19w : (IntKind.i64.wrap ((rd l0_1 x22_2) - 1)) = ji19 := (i64_w _).trans hji19
    by_cases c20 : 0 ≤ (ji19)
    rotate_left
    · rw [if_neg c20] at H
      exact absurd H (by simp)
    rw [if_pos c20] at H
    have c20b0 : decide (0 ≤ (ji19)) = true := decide_eq_true c20
    clear c20
    by_cases c21 : (ji19) < (l1.length : Int)
    rotate_left
    · rw [if_neg c21] at H
      exact absurd H (by simp)
    rw [if_pos c21] at H
    have c21b0 : decide ((ji19) < (l1.length : Int)) = true := decide_eq_true c21
    clear c21
    by_cases c22 : ((rd_T55 l1 (ji19)).f1) > 0
    rotate_left
    · rw [if_neg c22] at H
      have c22b0 : decide (0 < ((rd_T55 l1 (ji19)).f1)) = false := decide_eq_false c22
      clear c22
      by_cases c25 : 1 + 1 ≤ 9223372036854775807
      rotate_left
      · rw [if_neg c25] at H
        exact absurd H (by simp)
      rw [if_pos c25] at H
      have c25b0 := eq_true c25
      have c25b1 : decide (1 + 1 ≤ 9223372036854775807) = true := decide_eq_true c25
      try have c25b2 : (9223372036854775807 < 1 + 1) = False := eq_false (Nat.not_lt.2 c25)
      by_cases c26 : x5_2.size + 2 ≤ 9223372036854775807
      rotate_left
      · rw [if_neg c26] at H
        exact absurd H (by simp)
      rw [if_pos c26] at H
      have c26b0 := eq_true c26
      have c26b1 : decide (x5_2.size + 2 ≤ 9223372036854775807) = true := decide_eq_true c26
      try have c26b2 : (9223372036854775807 < x5_2.size + 2) = False := eq_false (Nat.not_lt.2 c26)
      have H' := am H
      clear H
      have p163 : 0 ≤ (x22_2 : Int) := of_decide_eq_true zl
      have q163 : x22_2 < (l0_1.length : Int) := of_decide_eq_true zl
      obtain ⟨ad163, e163, hx163_0⟩ := Kd.at_int HR0_1.out x22_2 p163 q163
      cases e163
      replace hx163_0 := hcx HB hx163_0
      replace p163 := eq_true p163
      replace q163 := eq_true q163
      have p164 : 0 ≤ ((ji19) : Int) := of_decide_eq_true zl
      have q164 : (ji19) < (l1.length : Int) := of_decide_eq_true zl
      obtain ⟨ad164, e164, hx164_0, hx164_1⟩ := at_T55 HR1.out (ji19) p164 q164
      cases e164
      replace hx164_0 := hcx HB hx164_0
      replace hx164_1 := hcx HB hx164_1
      replace p164 := eq_true p164
      replace q164 := eq_true q164
      go_wp2
      go_roundg k2
      case measure => have := HJ2.out; have := HK2.out; omega
      case rel => exact ⟨(x5_2 ++ ((⟨#[32]⟩ : ByteArray) ++ (⟨#[45]⟩ : ByteArray))), (wrap64 (x22_2 + 1)), ze, ze, H', ⟨by have := HJ2.out; have := HK2.out; omega⟩, ⟨zk BK160⟩, ⟨zb HB⟩⟩
    rw [if_pos c22] at H
    have c22b0 : decide (0 < ((rd_T55 l1 (ji19)).f1)) = true := decide_eq_true c22
    clear c22
    by_cases c23 : 1 + ((rd_T55 l1 (ji19)).f0).size ≤ 9223372036854775807
    rotate_left
    · rw [if_neg c23] at H
      exact absurd H (by simp)
    rw [if_pos c23] at H
    have c23b0 := eq_true c23
    have c23b1 : decide (1 + ((rd_T55 l1 (ji19)).f0).size ≤ 9223372036854775807) = true := decide_eq_true c23
    try have c23b2 : (9223372036854775807 < 1 + ((rd_T55 l1 (ji19)).f0).size) = False := eq_false (Nat.not_lt.2 c23)
    by_cases c24 : x5_2.size + ((⟨#[32]⟩ : ByteArray) ++ ((rd_T55 l1 (ji19)).f0)).size ≤ 9223372036854775807
    rotate_left
    · rw [if_neg c24] at H
      exact absurd H (by simp)
    rw [if_pos c24] at H
    have c24b0 := eq_true c24
    have c24b1 : decide (x5_2.size + ((⟨#[32]⟩ : ByteArray) ++ ((rd_T55 l1 (ji19)).f0)).size ≤ 9223372036854775807) = true := decide_eq_true c24
    try have c24b2 : (9223372036854775807 < x5_2.size + ((⟨#[32]⟩ : ByteArray) ++ ((rd_T55 l1 (ji19)).f0)).size) = False := eq_false (Nat.not_lt.2 c24)
    (try have c24b3 : (9223372036854775807 < x5_2.size + 2 + ((rd_T55 l1 (ji19)).f0).size) = False := eq_false (by have q_ := c24; simp only [ByteArray.size_append] at q_; have : (⟨#[32]⟩ : ByteArray).size = 1 := rfl; omega))
    have H' := am H
    clear H
    have p163 : 0 ≤ (x22_2 : Int) := of_decide_eq_true zl
    have q163 : x22_2 < (l0_1.length : Int) := of_decide_eq_true zl
    obtain ⟨ad163, e163, hx163_0⟩ := Kd.at_int HR0_1.out x22_2 p163 q163
    cases e163
    replace hx163_0 := hcx HB hx163_0
    replace p163 := eq_true p163
    replace q163 := eq_true q163
    have p164 : 0 ≤ ((ji19) : Int) := of_decide_eq_true zl
    have q164 : (ji19) < (l1.length : Int) := of_decide_eq_true zl
    obtain ⟨ad164, e164, hx164_0, hx164_1⟩ := at_T55 HR1.out (ji19) p164 q164
    cases e164
    replace hx164_0 := hcx HB hx164_0
    replace hx164_1 := hcx HB hx164_1
    replace p164 := eq_true p164
    replace q164 := eq_true q164
    have p165 : 0 ≤ ((ji19) : Int) := of_decide_eq_true zl
    have q165 : (ji19) < (l1.length : Int) := of_decide_eq_true zl
    obtain ⟨ad165, e165, hx165_0, hx165_1⟩ := at_T55 HR1.out (ji19) p165 q165
    obtain rfl : ad164 = ad165 := (by injection e165)
    replace hx165_0 := hcx HB hx165_0
    replace hx165_1 := hcx HB hx165_1
    replace p165 := eq_true p165
    replace q165 := eq_true q165
    go_wp2
    go_roundg k2
    case measure => have := HJ2.out; have := HK2.out; omega
    case rel => exact ⟨(x5_2 ++ ((⟨#[32]⟩ : ByteArray) ++ ((rd_T55 l1 (ji19)).f0))), (wrap64 (x22_2 + 1)), (by first | rfl | (simp; done) | (simp only [← hji19] <;> (first | rfl | simp)) | (simp [*]; done)), ze, H', ⟨by have := HJ2.out; have := HK2.out; omega⟩, ⟨zk BK160⟩, ⟨zb HB⟩⟩
/-! ### impl_PoolText: function 25 -/
def impl_PoolText.l0 : Nat → ByteArray → List (S38) → Int → Int → List (S55) → List (S38) → Option (ByteArray)
 | 0, _, _, _, _, _, _ => none
 | k + 1, x3, x10, x11, x12, x167000, x167001 => if x12 < x11 then (if 0 ≤ x12 then (if x12 < (x10.length : Int) then ((impl_VolText.f k ((rd_T38 x10 x12).f0) ((rd_T38 x10 x12).f1) x167000).bind fun t170 => (if t170.size + 1 ≤ 9223372036854775807 then (if x3.size + (t170 ++ (⟨#[10]⟩ : ByteArray)).size ≤ 9223372036854775807 then (impl_PoolText.l0 k (x3 ++ (t170 ++ (⟨#[10]⟩ : ByteArray))) x10 x11 (wrap64 (x12 + 1)) x167000 x167001) else (none)) else (none))) else (none)) else (none)) else (some x3)
def impl_PoolText.f (k : Nat) (l0_0 : List (S55)) (l0_1 : List (S38)) : Option (ByteArray) := (impl_PoolOk.f k l0_0 l0_1).bind fun t167 => (if t167 = true then (impl_PoolText.l0 k (⟨#[]⟩ : ByteArray) l0_1 (l0_1.length : Int) 0 l0_0 l0_1) else (some (⟨#[]⟩ : ByteArray)))
theorem impl_PoolText.mono_l : ∀ k, (∀ y0 y1 y2 y3 y4 y5, LeO (impl_PoolText.l0 k y0 y1 y2 y3 y4 y5) (impl_PoolText.l0 (k + 1) y0 y1 y2 y3 y4 y5))
 | 0 => fun _ _ _ _ _ _ r h => by simp [impl_PoolText.l0] at h
 | k + 1 => by
  have ih0 := impl_PoolText.mono_l k
  intro y0 y1 y2 y3 y4 y5
  unfold impl_PoolText.l0
  exact mo3 ih0 @impl_PoolOk.mono @impl_VolText.mono
theorem impl_PoolText.mono : ∀ a0 a1 k, LeO (impl_PoolText.f k a0 a1) (impl_PoolText.f (k + 1) a0 a1) := by
 intro a0 a1 k
 have ih0 := impl_PoolText.mono_l k
 unfold impl_PoolText.f
 exact mo3 ih0 @impl_PoolOk.mono @impl_VolText.mono
set_option maxHeartbeats 8000000 in
set_option maxRecDepth 100000 in
theorem impl_PoolText.calls (k : Nat) (A0_0 : Option Addr) (c0_0 : Nat) (l0_0 : List (S55)) (A0_1 : Option Addr) (c0_1 : Nat) (l0_1 : List (S38)) (r : ByteArray) (w : World) (hr0_0 : Kd.C k55 w A0_0 l0_0.length l0_0) (hc0_0 : l0_0.length ≤ c0_0) (hr0_1 : Kd.C k38 w A0_1 l0_1.length l0_1) (hc0_1 : l0_1.length ≤ c0_1) (h : impl_PoolText.f k l0_0 l0_1 = some r) :
 Calls Try.prog 25 #[.agg #[.slice A0_0 l0_0.length c0_0, .slice A0_1 l0_1.length c0_1]] w fun e w' => e = .returned (.string r) ∧ Below w.heap.size w w' := by
 have hu31 := Try.underlying31
 have hu38 := Try.underlying38
 have HR0_0 := am hr0_0
 have HC0_0 := am hc0_0
 clear hr0_0 hc0_0
 have HR0_1 := am hr0_1
 have HC0_1 := am hc0_1
 clear hr0_1 hc0_1
 have HB := am (Below.refl w.heap.size w)
 have H : ((impl_PoolOk.f k l0_0 l0_1).bind fun t167 => (if t167 = true then (impl_PoolText.l0 k (⟨#[]⟩ : ByteArray) l0_1 (l0_1.length : Int) 0 l0_0 l0_1) else (some (⟨#[]⟩ : ByteArray)))) = some r := h
 clear h
 replace H := obs H
 obtain ⟨t167, A20, H⟩ := H
 replace H : (if t167 = true then (impl_PoolText.l0 k (⟨#[]⟩ : ByteArray) l0_1 (l0_1.length : Int) 0 l0_0 l0_1) else (some (⟨#[]⟩ : ByteArray))) = some r := H
 have A2 := am A20
 clear A20
 by_cases c3 : t167 = true
 rotate_left
 · replace c3 := Bool.eq_false_iff.mpr c3
   subst c3
   have H1 : (some (⟨#[]⟩ : ByteArray)) = some r := by rw [if_neg (show ¬ (false = true) by decide)] at H; exact H
   clear H
   have H := H1
   clear H1
   obtain rfl := Option.some.inj H
   go_enter Try.func25, Try.ntmps25
   go_wp2_with (first | ((with_reducible refine gate_dst (N := 1) rfl ?_); refine bx 31 #[.slice A0_0 l0_0.length c0_0, .slice A0_1 l0_1.length c0_1] ?_; intro gb166 hg w19 hbox hb; have BK166 := am (hbox); have GW166 := am (zn hg (zb HB)); have GE166 := am (zn hg (zb HB)); replace HB := am (below_step (zb HB) hb); clear hb hbox hg; have hcz20_0 := ce0 BK166; have hcz20_1 := ce1 BK166; have hfz20_0 := bfz BK166 0; have hfz20_1 := bfz BK166 1) | ((with_reducible refine gate_callee (f := 17) rfl ?_); refine gl Try.func17 7 #[.agg #[.slice A0_0 l0_0.length c0_0, .slice A0_1 l0_1.length c0_1]] rfl rfl rfl ?_; (with_reducible refine (impl_PoolOk.calls k _ _ l0_0 _ _ l0_1 false _ ?side1 ?side2 ?side3 ?side4 A2.out).mono ?_); (case side1 => exact zc (Kd.C_below HR0_0.out HB.out)); (case side2 => exact HC0_0.out); (case side3 => exact zc (Kd.C_below HR0_1.out HB.out)); (case side4 => exact HC0_1.out); rintro e w21 ⟨rfl, hb⟩; refine ⟨_, rfl, ?_⟩; replace BK166 := am (blk_below (zk BK166) hb); replace HB := am (below_step (zb HB) hb); (try clear hb); (try clear hb2); (try clear hk); (try clear hi)))
   go_ret
   exact ⟨zv, (zb HB)⟩
 subst c3
 have H1 : (impl_PoolText.l0 k (⟨#[]⟩ : ByteArray) l0_1 (l0_1.length : Int) 0 l0_0 l0_1) = some r := by rw [if_pos rfl] at H; exact H
 clear H
 have H := H1
 clear H1
 have H' := am H
 clear H
 go_enter Try.func25, Try.ntmps25
 go_wp2_with (first | ((with_reducible refine gate_dst (N := 1) rfl ?_); refine bx 31 #[.slice A0_0 l0_0.length c0_0, .slice A0_1 l0_1.length c0_1] ?_; intro gb166 hg w4 hbox hb; have BK166 := am (hbox); have GW166 := am (zn hg (zb HB)); have GE166 := am (zn hg (zb HB)); replace HB := am (below_step (zb HB) hb); clear hb hbox hg; have hcz5_0 := ce0 BK166; have hcz5_1 := ce1 BK166; have hfz5_0 := bfz BK166 0; have hfz5_1 := bfz BK166 1) | ((with_reducible refine gate_callee (f := 17) rfl ?_); refine gl Try.func17 7 #[.agg #[.slice A0_0 l0_0.length c0_0, .slice A0_1 l0_1.length c0_1]] rfl rfl rfl ?_; (with_reducible refine (impl_PoolOk.calls k _ _ l0_0 _ _ l0_1 true _ ?side1 ?side2 ?side3 ?side4 A2.out).mono ?_); (case side1 => exact zc (Kd.C_below HR0_0.out HB.out)); (case side2 => exact HC0_0.out); (case side3 => exact zc (Kd.C_below HR0_1.out HB.out)); (case side4 => exact HC0_1.out); rintro e w6 ⟨rfl, hb⟩; refine ⟨_, rfl, ?_⟩; replace BK166 := am (blk_below (zk BK166) hb); replace HB := am (below_step (zb HB) hb); (try clear hb); (try clear hb2); (try clear hk); (try clear hi); have hcz7_0 := ce0 BK166; have hcz7_1 := ce1 BK166; have hfz7_0 := bfz BK166 0; have hfz7_1 := bfz BK166 1))
 go_loopg [3, 12] k (fun kq v3 v12 w' => ∃ (x3_1 : ByteArray) (x12_1 : Int), v3 = .string x3_1 ∧ v12 = .int .i64 x12_1 ∧ Aside0 (impl_PoolText.l0 kq x3_1 l0_1 (l0_1.length : Int) x12_1 l0_0 l0_1 = some r) ∧ Aside0 (kq ≤ k) ∧ Aside0 (w'.heap[gb166]? = some (.cells #[(.slice A0_0 l0_0.length c0_0), (.slice A0_1 l0_1.length c0_1)] 31 (0, 0))) ∧ Aside0 (Below w.heap.size w w'))
 case atStart => exact ⟨((⟨#[]⟩ : ByteArray)), (0), ze, ze, H', ⟨Nat.le_refl _⟩, ⟨zk BK166⟩, ⟨zb HB⟩⟩
 case round =>
  clear H'
  try clear c1
  try clear c2
  try clear p2
  try clear c3
  try clear hcz5_0
  try clear hcz5_1
  try clear hcz7_0
  try clear hcz7_1
  try clear hfz5_0
  try clear hfz5_1
  try clear hfz7_0
  try clear hfz7_1
  obtain ⟨x3_1, x12_1, rfl, rfl, HA, HK1, BK166, HB⟩ := hrel
  cases gk with
  | zero => exact absurd HA.out (by simp [impl_PoolText.l0])
  | succ k1 =>
   have H := HA.out
   clear HA
   simp only [impl_PoolText.l0] at H
   by_cases c8 : x12_1 < (l0_1.length : Int)
   rotate_left
   · rw [if_neg c8] at H
     have c8b0 : decide (x12_1 < (l0_1.length : Int)) = false := decide_eq_false c8
     clear c8
     obtain rfl := Option.some.inj H
     go_wp2
     go_ret
     exact ⟨zv, (zb HB)⟩
   rw [if_pos c8] at H
   have c8b0 : decide (x12_1 < (l0_1.length : Int)) = true := decide_eq_true c8
   clear c8
   by_cases c9 : 0 ≤ x12_1
   rotate_left
   · rw [if_neg c9] at H
     exact absurd H (by simp)
   rw [if_pos c9] at H
   have c9b0 : decide (0 ≤ x12_1) = true := decide_eq_true c9
   clear c9
   by_cases c10 : x12_1 < (l0_1.length : Int)
   rotate_left
   · rw [if_neg c10] at H
     exact absurd H (by simp)
   rw [if_pos c10] at H
   have c10b0 : decide (x12_1 < (l0_1.length : Int)) = true := decide_eq_true c10
   clear c10
   replace H := obs H
   obtain ⟨t170, A110, H⟩ := H
   replace H : (if t170.size + 1 ≤ 9223372036854775807 then (if x3_1.size + (t170 ++ (⟨#[10]⟩ : ByteArray)).size ≤ 9223372036854775807 then (impl_PoolText.l0 k1 (x3_1 ++ (t170 ++ (⟨#[10]⟩ : ByteArray))) l0_1 (l0_1.length : Int) (wrap64 (x12_1 + 1)) l0_0 l0_1) else (none)) else (none)) = some r := H
   have A11 := am A110
   clear A110
   by_cases c12 : t170.size + 1 ≤ 9223372036854775807
   rotate_left
   · rw [if_neg c12] at H
     exact absurd H (by simp)
   rw [if_pos c12] at H
   have c12b0 := eq_true c12
   have c12b1 : decide (t170.size + 1 ≤ 9223372036854775807) = true := decide_eq_true c12
   try have c12b2 : (9223372036854775807 < t170.size + 1) = False := eq_false (Nat.not_lt.2 c12)
   by_cases c13 : x3_1.size + (t170 ++ (⟨#[10]⟩ : ByteArray)).size ≤ 9223372036854775807
   rotate_left
   · rw [if_neg c13] at H
     exact absurd H (by simp)
   rw [if_pos c13] at H
   have c13b0 := eq_true c13
   have c13b1 : decide (x3_1.size + (t170 ++ (⟨#[10]⟩ : ByteArray)).size ≤ 9223372036854775807) = true := decide_eq_true c13
   try have c13b2 : (9223372036854775807 < x3_1.size + (t170 ++ (⟨#[10]⟩ : ByteArray)).size) = False := eq_false (Nat.not_lt.2 c13)
   (try have c13b3 : (9223372036854775807 < x3_1.size + t170.size + 1) = False := eq_false (by have q_ := c13; simp only [ByteArray.size_append] at q_; have : (⟨#[10]⟩ : ByteArray).size = 1 := rfl; omega))
   have H' := am H
   clear H
   have p168 : 0 ≤ (x12_1 : Int) := of_decide_eq_true zl
   have q168 : x12_1 < (l0_1.length : Int) := of_decide_eq_true zl
   obtain ⟨ad168, A168_1, c168_1, e168, hx168_0, hx168_1, hl168_1, hi168_1⟩ := at_T38 HR0_1.out x12_1 p168 q168
   cases e168
   replace hx168_0 := hcx HB hx168_0
   replace hx168_1 := hcx HB hx168_1
   have HR168_1 := am hi168_1
   have HC168_1 := am hl168_1
   clear hi168_1 hl168_1
   replace p168 := eq_true p168
   replace q168 := eq_true q168
   go_wp2_with (first | ((with_reducible refine gate_dst (N := 5) rfl ?_); refine bx 38 #[.string (⟨#[]⟩ : ByteArray), .slice none 0 0] ?_; intro gb169 hg w14 hbox hb; have BK169 := am (hbox); have GW169 := am (zn hg (zb HB)); have GE169 := am (zn hg (zb HB)); replace HB := am (below_step (zb HB) hb); have NB166_169 := am (zx hg (zk BK166)); have NB169_166 := am (zy hg (zk BK166)); replace BK166 := am (blk_below (zk BK166) hb); clear hb hbox hg; have hnb15 := NB169_166.out; have hnc15 := NB166_169.out; have hcz16_0 := ce0 BK169; have hcz16_1 := ce1 BK169; have hfz16_0 := bfz BK169 0; have hfz16_1 := bfz BK169 1; have hcz17_0 := ce0 BK166; have hcz17_1 := ce1 BK166; have hfz17_0 := bfz BK166 0; have hfz17_1 := bfz BK166 1) | ((with_reducible refine gate_callee (f := 30) rfl ?_); refine gl Try.func30 20 #[.agg #[.string ((rd_T38 l0_1 x12_1).f0), .slice A168_1 ((rd_T38 l0_1 x12_1).f1).length c168_1], .slice A0_0 l0_0.length c0_0] rfl rfl rfl ?_; (with_reducible refine (impl_VolText.calls k1 ((rd_T38 l0_1 x12_1).f0) _ _ ((rd_T38 l0_1 x12_1).f1) _ _ l0_0 t170 _ ?side1 ?side2 ?side3 ?side4 A11.out).mono ?_); (case side1 => exact Kd.C_below HR168_1.out (zb HB)); (case side2 => exact HC168_1.out); (case side3 => exact Kd.C_below HR0_0.out (zb HB)); (case side4 => exact HC0_0.out); rintro e w18 ⟨rfl, hb⟩; refine ⟨_, rfl, ?_⟩; replace BK166 := am (blk_below (zk BK166) hb); replace BK169 := am (blk_below (g := gb169) (o := .cells #[.string ((rd_T38 l0_1 x12_1).f0), .slice A168_1 ((rd_T38 l0_1 x12_1).f1).length c168_1] 38 (0, 0)) (zp BK169) hb); replace HB := am (below_step (zb HB) hb); (try clear hb); (try clear hb2); (try clear hk); (try clear hi)))
   go_roundg k1
   case measure => have := HK1.out; omega
   case rel => exact ⟨(x3_1 ++ (t170 ++ (⟨#[10]⟩ : ByteArray))), (wrap64 (x12_1 + 1)), ze, ze, H', ⟨by have := HK1.out; omega⟩, ⟨zk BK166⟩, ⟨zb HB⟩⟩
/-- A state of type 93 at block g of W; what its slices lead to came in by w0. -/
def IsS93 (w0 W : World) (g : Nat) (f0 : List Int) (f1 : Int) : Prop := ∃ A0 c0, W.heap[g]? = some (.cells #[.slice A0 f0.length c0, .int .i64 f1] 93 (0, 0)) ∧ w0.heap.size ≤ g ∧ Kd.C (Kd.int .u8) w0 A0 f0.length f0
theorem IsS93.grown {w0 W : World} {g : Nat} {f0 : List Int} {f1 : Int} {W1 : World} {row : Option Nat} (h : IsS93 w0 W g f0 f1) (hw : W.grownBy W1 row) (hne : some g ≠ row) : IsS93 w0 W1 g f0 f1 := by
 obtain ⟨A0, c0, hb, hg, hr0⟩ := h
 exact ⟨A0, c0, blk_grown hb hw hne, hg, hr0⟩
theorem IsS93.own_neN {w0 W : World} {g : Nat} {f0 : List Int} {f1 : Int} {α : Type} {d : Kd α} {e : Nat} {base : Nat} {ok : Nat → Prop} {v : Value} {xs : List α} (h : IsS93 w0 W g f0 f1) (ho : Kd.N d e W base ok v xs) (ht : e ≠ 93) : some g ≠ v.ownBlock := by
 obtain ⟨A0, c0, hb, hg, hr0⟩ := h
 exact Kd.N_ne ho hb ht
theorem IsS93.fresh {w0 W : World} {g : Nat} {f0 : List Int} {f1 : Int} (h : IsS93 w0 W g f0 f1) : ∀ k, W.heap.size ≤ k → k ≠ g := by
 obtain ⟨A0, c0, hb, hg, hr0⟩ := h
 exact Kd.freshB hb
theorem IsS93.kept {w0 W : World} {g : Nat} {f0 : List Int} {f1 : Int} {W1 : World} {S : Nat → Prop} (h : IsS93 w0 W g f0 f1) (hk : Kept W W1 S) (hne : ¬ S g) : IsS93 w0 W1 g f0 f1 := by
 obtain ⟨A0, c0, hb, hg, hr0⟩ := h
 exact ⟨A0, c0, blk_kept hb hk hne, hg, hr0⟩
theorem IsS93.below {w0 W : World} {g : Nat} {f0 : List Int} {f1 : Int} {W1 : World} (h : IsS93 w0 W g f0 f1) (hw : Below W.heap.size W W1) : IsS93 w0 W1 g f0 f1 := h.grown (grown_of_below hw none) (by simp)
theorem IsS93.alloc {w0 W : World} {g : Nat} {f0 : List Int} {f1 : Int} (h : IsS93 w0 W g f0 f1) (o : Obj) : IsS93 w0 (W.alloc o) g f0 f1 := h.below (below_alloc (Below.refl _ _) o)
theorem IsS93.drewN {w0 W : World} {g : Nat} {f0 : List Int} {f1 : Int} (h : IsS93 w0 W g f0 f1) (m : Nat) : IsS93 w0 (W.drewN m) g f0 f1 := h
theorem IsS93.drew {w0 W : World} {g : Nat} {f0 : List Int} {f1 : Int} (h : IsS93 w0 W g f0 f1) : IsS93 w0 W.drew g f0 f1 := h
theorem IsS93.at_ {w0 W : World} {g : Nat} {f0 : List Int} {f1 : Int} {w' : World} {m : Nat} (hq : W.drewN m = w') (h : IsS93 w0 W g f0 f1) : IsS93 w0 w' g f0 f1 := by subst hq; exact IsS93.drewN h m
theorem IsS93.apart {w0 W : World} {g : Nat} {f0 : List Int} {f1 : Int} {α : Type} {d : Kd α} {e : Nat} {base : Nat} {ok : Nat → Prop} {v : Value} {xs : List α} (h : IsS93 w0 W g f0 f1) (ho : d.R e W base ok v xs) (ht : ∀ q, q ∈ e :: d.E → q ≠ 93) : d.R e W base (fun k => ok k ∧ k ≠ g) v xs := by
 obtain ⟨A0, c0, hb, hg, hr0⟩ := h
 exact Kd.R_types ho hb ht
theorem IsS93.own_ne {w0 W : World} {g : Nat} {f0 : List Int} {f1 : Int} {α : Type} {d : Kd α} {e : Nat} {base : Nat} {ok : Nat → Prop} {v : Value} {xs : List α} (h : IsS93 w0 W g f0 f1) (ho : d.R e W base ok v xs) (ht : e ≠ 93) : some g ≠ v.ownBlock := by
 obtain ⟨A0, c0, hb, hg, hr0⟩ := h
 exact Kd.R_ne ho hb ht
theorem IsS93.apartQ {w0 W : World} {g : Nat} {f0 : List Int} {f1 : Int} {α : Type} {d : Kd α} {e : Nat} {base : Nat} {ok : Nat → Prop} {v : Value} {xs : List α} (h : IsS93 w0 W g f0 f1) (ho : d.Q e W base ok v xs) (ht : ∀ q, q ∈ e :: d.E → q ≠ 93) : d.Q e W base (fun k => ok k ∧ k ≠ g) v xs := by
 obtain ⟨A0, c0, hb, hg, hr0⟩ := h
 exact Kd.Q_types ho hb ht
theorem IsS93.own_neQ {w0 W : World} {g : Nat} {f0 : List Int} {f1 : Int} {α : Type} {d : Kd α} {e : Nat} {base : Nat} {ok : Nat → Prop} {v : Value} {xs : List α} (h : IsS93 w0 W g f0 f1) (ho : d.Q e W base ok v xs) (ht : e ≠ 93) : some g ≠ v.ownBlock := by
 obtain ⟨A0, c0, hb, hg, hr0⟩ := h
 exact Kd.Q_ne ho hb ht
theorem IsS93.apartS {w0 W : World} {g : Nat} {f0 : List Int} {f1 : Int} {α : Type} {d : Kd α} {e : Nat} {base : Nat} {ok : Nat → Prop} {v : Value} {xs : List α} (h : IsS93 w0 W g f0 f1) (ho : d.S e W base ok v xs) (ht : ∀ q, q ∈ e :: d.E → q ≠ 93) : d.S e W base (fun k => ok k ∧ k ≠ g) v xs := by
 obtain ⟨A0, c0, hb, hg, hr0⟩ := h
 exact Kd.S_types ho hb ht
theorem IsS93.own_neS {w0 W : World} {g : Nat} {f0 : List Int} {f1 : Int} {α : Type} {d : Kd α} {e : Nat} {base : Nat} {ok : Nat → Prop} {v : Value} {xs : List α} (h : IsS93 w0 W g f0 f1) (ho : d.S e W base ok v xs) (ht : e ≠ 93) : some g ≠ v.ownBlock := by
 obtain ⟨A0, c0, hb, hg, hr0⟩ := h
 exact Kd.S_ne ho hb ht
theorem IsS93.lt {w0 W : World} {g : Nat} {f0 : List Int} {f1 : Int} (h : IsS93 w0 W g f0 f1) : g < W.heap.size := by
 obtain ⟨A0, c0, hb, hg, hr0⟩ := h
 exact blk_lt hb
theorem IsS93.ge {w0 W : World} {g : Nat} {f0 : List Int} {f1 : Int} (h : IsS93 w0 W g f0 f1) : w0.heap.size ≤ g := by
 obtain ⟨A0, c0, hb, hg, hr0⟩ := h
 exact hg
theorem IsS93.ne_blk {w0 W : World} {g : Nat} {f0 : List Int} {f1 : Int} {a : Nat} {cs : Array Value} {t : TypeId} {fr : Nat × Nat} (h : IsS93 w0 W g f0 f1) (hb2 : W.heap[a]? = some (.cells cs t fr)) (ht : t ≠ 93) : g ≠ a := by
 obtain ⟨A0, c0, hb, hg, hr0⟩ := h
 rintro rfl
 rw [hb] at hb2
 injection hb2 with hb2
 injection hb2 with _ ht2
 exact ht ht2.symm
theorem IsS93.far {w0 W : World} {g : Nat} {f0 : List Int} {f1 : Int} {p : Addr} (h : IsS93 w0 W g f0 f1) (hne : g ≠ p.block) (u : Value) : IsS93 w0 (W.setCell p u) g f0 f1 := by
 obtain ⟨A0, c0, hb, hg, hr0⟩ := h
 exact ⟨A0, c0, blk_far hb hne u, hg, hr0⟩
theorem cellS93_0 {W : World} {g : Nat} {A0 : Option Addr} {c0 : Nat} {f0 : List Int} {f1 : Int} (h : W.heap[g]? = some (.cells #[.slice A0 f0.length c0, .int .i64 f1] 93 (0, 0))) : W.cell? ⟨g, 0, none⟩ = some (.slice A0 f0.length c0) := (blk_cell h 0).trans rfl
theorem cellS93_1 {W : World} {g : Nat} {A0 : Option Addr} {c0 : Nat} {f0 : List Int} {f1 : Int} (h : W.heap[g]? = some (.cells #[.slice A0 f0.length c0, .int .i64 f1] 93 (0, 0))) : W.cell? ⟨g, 1, none⟩ = some (.int .i64 f1) := (blk_cell h 1).trans rfl
theorem IsS93.set_1 {w0 W : World} {g : Nat} {f0 : List Int} {f1 : Int} (h : IsS93 w0 W g f0 f1) (x : Int) : IsS93 w0 (W.setCell ⟨g, 1, none⟩ (.int .i64 x)) g f0 x := by
 obtain ⟨A0, c0, hb, hg, hr0⟩ := h
 exact ⟨A0, c0, by simpa using blk_set hb 1 (.int .i64 x), hg, hr0⟩
theorem IsS93.new (w0 W : World) (A0 : Option Addr) (c0 : Nat) (f0 : List Int) (f1 : Int) (hB : Below w0.heap.size w0 W) (hr0 : Kd.C (Kd.int .u8) w0 A0 f0.length f0) : IsS93 w0 (W.alloc (.cells #[.slice A0 f0.length c0, .int .i64 f1] 93)) W.heap.size f0 f1 := ⟨A0, c0, by simpa using heap_alloc_new W _, hB.size, hr0⟩
theorem zi {w0 W W' : World} {g : Nat} {f0 : List Int} {f1 f1' : Int} (h : Aside0 (IsS93 w0 W g f0 f1))
 (f : IsS93 w0 W g f0 f1 → IsS93 w0 W' g f0 f1' := by intro h_; repeat (first | (with_reducible first | exact h_ | apply IsS93.alloc | apply IsS93.drewN | apply IsS93.drew | apply IsS93.set_1 | apply IsS93.far | exact Aside0.out (by assumption)) | exact h_)) :
 IsS93 w0 W' g f0 f1' := f h.out
theorem ix {w0 W : World} {g g' : Nat} {f0 : List Int} {f1 : Int} (hg : g' = W.heap.size) (h : IsS93 w0 W g f0 f1) : g ≠ g' := hg ▸ Nat.ne_of_lt h.lt
theorem iy {w0 W : World} {g g' : Nat} {f0 : List Int} {f1 : Int} (hg : g' = W.heap.size) (h : IsS93 w0 W g f0 f1) : g' ≠ g := (ix hg h).symm
/-! ### spec_l6Open: function 49 -/
def spec_l6Open.f (l0 : List Int) : Option (List Int × Int) := if (l0.length : Int) > 2000 then (if 2000 ≤ (l0.length : Int) then (some (l0.take 2000, 0)) else (none)) else (some (l0, 0))
set_option maxHeartbeats 8000000 in
set_option maxRecDepth 100000 in
theorem spec_l6Open.calls (A0 : Option Addr) (c0 : Nat) (l0 : List Int) (r1 : List Int) (r2 : Int) (w0 w : World) (hB : Below w0.heap.size w0 w) (hr0 : Kd.C (Kd.int .u8) w0 A0 l0.length l0) (hc0 : l0.length ≤ c0) (h : spec_l6Open.f l0 = some (r1, r2)) :
 Calls Try.prog 49 #[.slice A0 l0.length c0] w fun e w' => ∃ g_ : Nat, e = .returned (.pointer (some ⟨g_, 0, none⟩)) ∧ IsS93 w0 w' g_ r1 r2 ∧ Below w0.heap.size w0 w' ∧ Below w.heap.size w w' := by
 have hu93 := Try.underlying93
 have HR0 := am hr0
 have HC0 := am hc0
 clear hr0 hc0
 have HBW := am (Below.refl w.heap.size w)
 have HW0 := am hB.size
 have HB := am hB
 clear hB
 have H : (if (l0.length : Int) > 2000 then (if 2000 ≤ (l0.length : Int) then (some (l0.take 2000, 0)) else (none)) else (some (l0, 0))) = some (r1, r2) := h
 clear h
 by_cases c2 : (l0.length : Int) > 2000
 rotate_left
 · rw [if_neg c2] at H
   have c2b0 : decide (2000 < (l0.length : Int)) = false := decide_eq_false c2
   have c2b1 : decide (2000 < l0.length) = false := decide_eq_false (by omega)
   clear c2
   simp only [Option.some.injEq, Prod.mk.injEq] at H
   obtain ⟨rfl, rfl⟩ := H
   go_enter Try.func49, Try.ntmps49
   go_wp2_with (first | ((with_reducible refine gate_dst (N := 10) rfl ?_); refine bx 93 #[.slice A0 l0.length c0, .int .i64 0] ?_; intro gb173 hg w6 hbox hb; replace HB := am (below_step (zb HB) hb); have BK173 := am (hbox); have GW173 := am (zn hg (zb HBW)); have GE173 := am ((Nat.le_trans HW0.out (zn hg (zb HBW)) : w0.heap.size ≤ gb173)); replace HBW := am (below_step HBW.out hb); clear hb hbox hg))
   go_ret
   exact ⟨_, rfl, (show IsS93 w0 _ gb173 l0 0 from ⟨_, _, (zk BK173), GE173.out, HR0.out⟩), (zb HB), (zb HBW)⟩
 rw [if_pos c2] at H
 have c2b0 : decide (2000 < (l0.length : Int)) = true := decide_eq_true c2
 have c2b1 : decide (2000 < l0.length) = true := decide_eq_true (by omega)
 clear c2
 by_cases c3 : 2000 ≤ (l0.length : Int)
 rotate_left
 · rw [if_neg c3] at H
   exact absurd H (by simp)
 rw [if_pos c3] at H
 have c3b0 := eq_true c3
 have c3b1 : decide (2000 ≤ (l0.length : Int)) = true := decide_eq_true c3
 clear c3
 simp only [Option.some.injEq, Prod.mk.injEq] at H
 obtain ⟨rfl, rfl⟩ := H
 obtain ⟨i04, hi04, _, hsz4, _⟩ := info_parts info5
 obtain ⟨hcut4, hA4, hC4⟩ := print_take_of (P := Try.prog) (Value.int .u8) 0 35 5 .i64 Try.underlying35 hi04 hsz4 A0 c0 l0 2000 (by omega) (of_decide_eq_true zl) HC0.out
 have HR171 := am (Kd.C_of_reads (h1 := fun _ => rfl) (hA4 _ (Kd.reads_of_C HR0.out)))
 have HC171 := am hC4
 clear hA4 hC4 hi04 hsz4
 go_enter Try.func49, Try.ntmps49
 go_wp2_with (first | ((with_reducible refine gate_dst (N := 10) rfl ?_); refine bx 93 #[.slice A0 (l0.take 2000).length c0, .int .i64 0] ?_; intro gb172 hg w5 hbox hb; replace HB := am (below_step (zb HB) hb); have BK172 := am (hbox); have GW172 := am (zn hg (zb HBW)); have GE172 := am ((Nat.le_trans HW0.out (zn hg (zb HBW)) : w0.heap.size ≤ gb172)); replace HBW := am (below_step HBW.out hb); clear hb hbox hg))
 go_ret
 exact ⟨_, rfl, (show IsS93 w0 _ gb172 (l0.take 2000) 0 from ⟨_, _, (zk BK172), GE172.out, HR171.out⟩), (zb HB), (zb HBW)⟩
/-! ### spec_l6Rd_pick: function 51 -/
def spec_l6Rd_pick.j0 : Nat → Int → Bool → List Int → Int → Option (Int × Int)
 | 0, _, _, _, _ => none
 | k + 1, x1, x24, x1000, x1001 => if x24 = true then (some (0, x1001)) else (if (wrap64 (x1001 - 1)) < (x1000.length : Int) then (if 0 ≤ (wrap64 (x1001 - 1)) then (if x1 = 0 then (none) else (some (Int.tmod (wrap64 (rd x1000 (wrap64 (x1001 - 1)))) x1, x1001))) else (none)) else (if (x1000.length : Int) = 0 then (none) else (if 0 ≤ (Int.tmod (wrap64 (x1001 - 1)) (x1000.length : Int)) then (if (Int.tmod (wrap64 (x1001 - 1)) (x1000.length : Int)) < (x1000.length : Int) then (if 0 ≤ (Int.tmod (wrap64 ((wrap64 ((wrap64 (x1001 - 1)) * 7)) + 3)) (x1000.length : Int)) then (if (Int.tmod (wrap64 ((wrap64 ((wrap64 (x1001 - 1)) * 7)) + 3)) (x1000.length : Int)) < (x1000.length : Int) then (if x1 = 0 then (none) else (some (Int.tmod (Go.bits .xor .i64 (wrap64 ((wrap64 ((wrap64 ((wrap64 ((wrap64 (rd x1000 (Int.tmod (wrap64 (x1001 - 1)) (x1000.length : Int)))) * 131)) + (wrap64 ((wrap64 (rd x1000 (Int.tmod (wrap64 ((wrap64 ((wrap64 (x1001 - 1)) * 7)) + 3)) (x1000.length : Int)))) * 1117)))) + (wrap64 ((wrap64 (x1001 - 1)) * 29)))) + (wrap64 ((wrap64 (Int.tdiv (wrap64 (x1001 - 1)) (x1000.length : Int))) * 53)))) (wrap64 (Int.tdiv (wrap64 ((wrap64 ((wrap64 ((wrap64 ((wrap64 (rd x1000 (Int.tmod (wrap64 (x1001 - 1)) (x1000.length : Int)))) * 131)) + (wrap64 ((wrap64 (rd x1000 (Int.tmod (wrap64 ((wrap64 ((wrap64 (x1001 - 1)) * 7)) + 3)) (x1000.length : Int)))) * 1117)))) + (wrap64 ((wrap64 (x1001 - 1)) * 29)))) + (wrap64 ((wrap64 (Int.tdiv (wrap64 (x1001 - 1)) (x1000.length : Int))) * 53)))) 64))) x1, x1001))) else (none)) else (none)) else (none)) else (none))))
def spec_l6Rd_pick.f (k : Nat) (s0_0 : List Int) (s0_1 : Int) (a1 : Int) : Option (Int × Int) := if a1 < 1 then (spec_l6Rd_pick.j0 k a1 true s0_0 (wrap64 (s0_1 + 1))) else (spec_l6Rd_pick.j0 k a1 ((s0_0.length : Int) == 0) s0_0 (wrap64 (s0_1 + 1)))
theorem spec_l6Rd_pick.mono_l : ∀ k, (∀ y0 y1 y2 y3, LeO (spec_l6Rd_pick.j0 k y0 y1 y2 y3) (spec_l6Rd_pick.j0 (k + 1) y0 y1 y2 y3))
 | 0 => fun _ _ _ _ r h => by simp [spec_l6Rd_pick.j0] at h
 | k + 1 => by
  have ih0 := spec_l6Rd_pick.mono_l k
  intro y0 y1 y2 y3
  unfold spec_l6Rd_pick.j0
  exact mo1 ih0
theorem spec_l6Rd_pick.mono : ∀ a0 a1 a2 k, LeO (spec_l6Rd_pick.f k a0 a1 a2) (spec_l6Rd_pick.f (k + 1) a0 a1 a2) := by
 intro a0 a1 a2 k
 have ih0 := spec_l6Rd_pick.mono_l k
 unfold spec_l6Rd_pick.f
 exact mo1 ih0
set_option maxHeartbeats 8000000 in
set_option maxRecDepth 100000 in
theorem spec_l6Rd_pick.calls (k : Nat) (g : Nat) (s0_0 : List Int) (s0_1 : Int) (a1 : Int) (r1 : Int) (r2 : Int) (w0 w : World) (hI : IsS93 w0 w g s0_0 s0_1) (hB : Below w0.heap.size w0 w) (h : spec_l6Rd_pick.f k s0_0 s0_1 a1 = some (r1, r2)) :
 Calls Try.prog 51 #[.pointer (some ⟨g, 0, none⟩), .int .i64 a1] w fun e w' => e = .returned (.int .i64 r1) ∧ IsS93 w0 w' g s0_0 r2 ∧ Below w0.heap.size w0 w' ∧ KeepBut w w' g none := by
 have HI0 := am hI
 have HK := am (KeepBut.refl w g none)
 have HL := am hB.size
 clear hI
 have HW0 := am hB.size
 have HB := am hB
 clear hB
 have H : (if a1 < 1 then (spec_l6Rd_pick.j0 k a1 true s0_0 (wrap64 (s0_1 + 1))) else (spec_l6Rd_pick.j0 k a1 ((s0_0.length : Int) == 0) s0_0 (wrap64 (s0_1 + 1)))) = some (r1, r2) := h
 clear h
 have HC3 := am H
 clear H
 obtain ⟨ASz4_0, cSz4_0, HGz4, hgz4, HSz4_0⟩ := HI0.out
 have hcz4_0 := cellS93_0 HGz4
 have hcz4_1 := cellS93_1 HGz4
 have hfz4_1 := blk_frozen HGz4 1
 clear HGz4 hgz4
 go_enter Try.func51, Try.ntmps51
 go_upto_region 2 with (fail)
 repeat (go_quiet (fail); go_upto_region 2 with (fail))
 go_cut [24] (fun v24 wc => ∃ (kq : Nat) (x24_2 : Bool), v24 = .bool x24_2 ∧ Aside0 (spec_l6Rd_pick.j0 kq a1 x24_2 s0_0 (wrap64 (s0_1 + 1)) = some (r1, r2)) ∧ Aside0 (kq ≤ k) ∧ Aside0 (IsS93 w0 wc g s0_0 (wrap64 (s0_1 + 1))) ∧ Aside0 (KeepBut w wc g none) ∧ Aside0 (Below w0.heap.size w0 wc))
 case first =>
  have H := HC3.out
  clear HC3
  by_cases c5 : a1 < 1
  · rw [if_pos c5] at H
    have c5b0 : decide (a1 < 1) = true := decide_eq_true c5
    clear c5
    (first | rw [c5b0] | (simp only [i64_w, i32_w]; rw [c5b0]) | skip)
    have H' := am H
    clear H
    go_wp2
    repeat (go_quiet (fail); try go_wp2)
    go_meet
    case rel => exact ⟨_, (true), ze, H', ⟨by first | omega | exact Nat.le_refl _⟩, ⟨zi HI0⟩, ⟨zh HK⟩, ⟨zb HB⟩⟩
  rw [if_neg c5] at H
  have c5b0 : decide (a1 < 1) = false := decide_eq_false c5
  clear c5
  (first | rw [c5b0] | (simp only [i64_w, i32_w]; rw [c5b0]) | skip)
  have H' := am H
  clear H
  obtain ⟨ASz6_0, cSz6_0, HGz6, hgz6, HSz6_0⟩ := HI0.out
  have hcz6_0 := cellS93_0 HGz6
  have hcz6_1 := cellS93_1 HGz6
  have hfz6_1 := blk_frozen HGz6 1
  clear HGz6 hgz6
  go_wp2
  repeat (go_quiet (fail); try go_wp2)
  go_meet
  case rel => exact ⟨_, (((s0_0.length : Int) == 0)), ze, H', ⟨by first | omega | exact Nat.le_refl _⟩, ⟨zi HI0⟩, ⟨zh HK⟩, ⟨zb HB⟩⟩
 clear HC3
 try clear p2
 try clear c5
 try clear c5b0
 try clear p6
 try clear hcz4_0
 try clear hcz4_1
 try clear hcz6_0
 try clear hcz6_1
 try clear hfz4_1
 try clear hfz6_1
 obtain ⟨kq, x24_2, rfl, HA, HJ2, HI0, HK, HB⟩ := hcut
 cases kq with
 | zero => exact absurd HA.out (by simp [spec_l6Rd_pick.j0])
 | succ kj2 =>
  have H := HA.out
  clear HA
  simp only [spec_l6Rd_pick.j0] at H
  by_cases c7 : x24_2 = true
  · subst c7
    have H1 : (some (0, (wrap64 (s0_1 + 1)))) = some (r1, r2) := by rw [if_pos rfl] at H; exact H
    clear H
    have H := H1
    clear H1
    simp only [Option.some.injEq, Prod.mk.injEq] at H
    obtain ⟨rfl, rfl⟩ := H
    go_wp2
    repeat (go_quiet (fail); try go_wp2)
    go_ret
    exact ⟨zv, (zi HI0), (zb HB), (zh HK)⟩
  replace c7 := Bool.eq_false_iff.mpr c7
  subst c7
  have H1 : (if (wrap64 ((wrap64 (s0_1 + 1)) - 1)) < (s0_0.length : Int) then (if 0 ≤ (wrap64 ((wrap64 (s0_1 + 1)) - 1)) then (if a1 = 0 then (none) else (some (Int.tmod (wrap64 (rd s0_0 (wrap64 ((wrap64 (s0_1 + 1)) - 1)))) a1, (wrap64 (s0_1 + 1))))) else (none)) else (if (s0_0.length : Int) = 0 then (none) else (if 0 ≤ (Int.tmod (wrap64 ((wrap64 (s0_1 + 1)) - 1)) (s0_0.length : Int)) then (if (Int.tmod (wrap64 ((wrap64 (s0_1 + 1)) - 1)) (s0_0.length : Int)) < (s0_0.length : Int) then (if 0 ≤ (Int.tmod (wrap64 ((wrap64 ((wrap64 ((wrap64 (s0_1 + 1)) - 1)) * 7)) + 3)) (s0_0.length : Int)) then (if (Int.tmod (wrap64 ((wrap64 ((wrap64 ((wrap64 (s0_1 + 1)) - 1)) * 7)) + 3)) (s0_0.length : Int)) < (s0_0.length : Int) then (if a1 = 0 then (none) else (some (Int.tmod (Go.bits .xor .i64 (wrap64 ((wrap64 ((wrap64 ((wrap64 ((wrap64 (rd s0_0 (Int.tmod (wrap64 ((wrap64 (s0_1 + 1)) - 1)) (s0_0.length : Int)))) * 131)) + (wrap64 ((wrap64 (rd s0_0 (Int.tmod (wrap64 ((wrap64 ((wrap64 ((wrap64 (s0_1 + 1)) - 1)) * 7)) + 3)) (s0_0.length : Int)))) * 1117)))) + (wrap64 ((wrap64 ((wrap64 (s0_1 + 1)) - 1)) * 29)))) + (wrap64 ((wrap64 (Int.tdiv (wrap64 ((wrap64 (s0_1 + 1)) - 1)) (s0_0.length : Int))) * 53)))) (wrap64 (Int.tdiv (wrap64 ((wrap64 ((wrap64 ((wrap64 ((wrap64 (rd s0_0 (Int.tmod (wrap64 ((wrap64 (s0_1 + 1)) - 1)) (s0_0.length : Int)))) * 131)) + (wrap64 ((wrap64 (rd s0_0 (Int.tmod (wrap64 ((wrap64 ((wrap64 ((wrap64 (s0_1 + 1)) - 1)) * 7)) + 3)) (s0_0.length : Int)))) * 1117)))) + (wrap64 ((wrap64 ((wrap64 (s0_1 + 1)) - 1)) * 29)))) + (wrap64 ((wrap64 (Int.tdiv (wrap64 ((wrap64 (s0_1 + 1)) - 1)) (s0_0.length : Int))) * 53)))) 64))) a1, (wrap64 (s0_1 + 1))))) else (none)) else (none)) else (none)) else (none)))) = some (r1, r2) := by rw [if_neg (show ¬ (false = true) by decide)] at H; exact H
  clear H
  have H := H1
  clear H1
  by_cases c8 : (wrap64 ((wrap64 (s0_1 + 1)) - 1)) < (s0_0.length : Int)
  · rw [if_pos c8] at H
    have c8b0 : decide ((wrap64 ((wrap64 (s0_1 + 1)) - 1)) < (s0_0.length : Int)) = true := decide_eq_true c8
    clear c8
    obtain ⟨ji9, hji9⟩ : ∃ j_ : Int, (wrap64 ((wrap64 (s0_1 + 1)) - 1)) = j_ := ⟨_, rfl⟩
    replace H : (if 0 ≤ (ji9) then (if a1 = 0 then (none) else (some (Int.tmod (wrap64 (rd s0_0 (ji9))) a1, (wrap64 (s0_1 + 1))))) else (none)) = some (r1, r2) := by first | (rw [hji9] at H; exact H) | (simp only [hji9] at H ⊢; exact H)
    (try rw [hji9] at c8b0)
    have hji9w : (IntKind.i64.wrap ((wrap64 (s0_1 + 1)) - 1)) = ji9 := (i64_w _).trans hji9
    by_cases c10 : 0 ≤ (ji9)
    rotate_left
    · rw [if_neg c10] at H
      exact absurd H (by simp)
    rw [if_pos c10] at H
    have c10b0 : decide (0 ≤ (ji9)) = true := decide_eq_true c10
    clear c10
    by_cases c11 : a1 = 0
    · rw [if_pos c11] at H
      exact absurd H (by simp)
    rw [if_neg c11] at H
    have c11b0 : (a1 == 0) = false := beq_eq_false_iff_ne.mpr c11
    have c11b1 : (a1 != 0) = true := bne_iff_ne.mpr c11
    simp only [Option.some.injEq, Prod.mk.injEq] at H
    obtain ⟨rfl, rfl⟩ := H
    obtain ⟨ASz12_0, cSz12_0, HGz12, hgz12, HSz12_0⟩ := HI0.out
    have hcz12_0 := cellS93_0 HGz12
    have hcz12_1 := cellS93_1 HGz12
    have hfz12_1 := blk_frozen HGz12 1
    clear HGz12 hgz12
    have p174 : 0 ≤ ((ji9) : Int) := of_decide_eq_true zl
    have q174 : (ji9) < (s0_0.length : Int) := of_decide_eq_true zl
    obtain ⟨ad174, e174, hx174_0⟩ := Kd.at_int HSz12_0 (ji9) p174 q174
    cases e174
    replace hx174_0 := pw_cell_below HB.out hx174_0
    replace p174 := eq_true p174
    replace q174 := eq_true q174
    go_wp2
    repeat (go_quiet (fail); try go_wp2)
    go_ret
    exact ⟨by first | rfl | (simp [errW_none, errW_some] <;> rfl) | (simp only [← hji9]; first | rfl | (simp [errW_none, errW_some] <;> rfl)) | (simp [*, errW_none, errW_some] <;> rfl), (zi HI0), (zb HB), (zh HK)⟩
  rw [if_neg c8] at H
  have c8b0 : decide ((wrap64 ((wrap64 (s0_1 + 1)) - 1)) < (s0_0.length : Int)) = false := decide_eq_false c8
  clear c8
  by_cases c13 : (s0_0.length : Int) = 0
  · rw [if_pos c13] at H
    exact absurd H (by simp)
  rw [if_neg c13] at H
  have c13b0 : ((s0_0.length : Int) == 0) = false := beq_eq_false_iff_ne.mpr c13
  have c13b1 : ((s0_0.length : Int) != 0) = true := bne_iff_ne.mpr c13
  have c13b2 : ¬ (s0_0 = []) := fun h_ => c13 (by rw [h_]; rfl)
  obtain ⟨ji14, hji14⟩ : ∃ j_ : Int, (Int.tmod (wrap64 ((wrap64 (s0_1 + 1)) - 1)) (s0_0.length : Int)) = j_ := ⟨_, rfl⟩
  replace H : (if 0 ≤ (ji14) then (if (ji14) < (s0_0.length : Int) then (if 0 ≤ (Int.tmod (wrap64 ((wrap64 ((wrap64 ((wrap64 (s0_1 + 1)) - 1)) * 7)) + 3)) (s0_0.length : Int)) then (if (Int.tmod (wrap64 ((wrap64 ((wrap64 ((wrap64 (s0_1 + 1)) - 1)) * 7)) + 3)) (s0_0.length : Int)) < (s0_0.length : Int) then (if a1 = 0 then (none) else (some (Int.tmod (Go.bits .xor .i64 (wrap64 ((wrap64 ((wrap64 ((wrap64 ((wrap64 (rd s0_0 (ji14))) * 131)) + (wrap64 ((wrap64 (rd s0_0 (Int.tmod (wrap64 ((wrap64 ((wrap64 ((wrap64 (s0_1 + 1)) - 1)) * 7)) + 3)) (s0_0.length : Int)))) * 1117)))) + (wrap64 ((wrap64 ((wrap64 (s0_1 + 1)) - 1)) * 29)))) + (wrap64 ((wrap64 (Int.tdiv (wrap64 ((wrap64 (s0_1 + 1)) - 1)) (s0_0.length : Int))) * 53)))) (wrap64 (Int.tdiv (wrap64 ((wrap64 ((wrap64 ((wrap64 ((wrap64 (rd s0_0 (ji14))) * 131)) + (wrap64 ((wrap64 (rd s0_0 (Int.tmod (wrap64 ((wrap64 ((wrap64 ((wrap64 (s0_1 + 1)) - 1)) * 7)) + 3)) (s0_0.length : Int)))) * 1117)))) + (wrap64 ((wrap64 ((wrap64 (s0_1 + 1)) - 1)) * 29)))) + (wrap64 ((wrap64 (Int.tdiv (wrap64 ((wrap64 (s0_1 + 1)) - 1)) (s0_0.length : Int))) * 53)))) 64))) a1, (wrap64 (s0_1 + 1))))) else (none)) else (none)) else (none)) else (none)) = some (r1, r2) := by first | (rw [hji14] at H; exact H) | (simp only [hji14] at H ⊢; exact H)
  by_cases c15 : 0 ≤ (ji14)
  rotate_left
  · rw [if_neg c15] at H
    exact absurd H (by simp)
  rw [if_pos c15] at H
  have c15b0 : decide (0 ≤ (ji14)) = true := decide_eq_true c15
  clear c15
  by_cases c16 : (ji14) < (s0_0.length : Int)
  rotate_left
  · rw [if_neg c16] at H
    exact absurd H (by simp)
  rw [if_pos c16] at H
  have c16b0 : decide ((ji14) < (s0_0.length : Int)) = true := decide_eq_true c16
  clear c16
  obtain ⟨ji17, hji17⟩ : ∃ j_ : Int, (Int.tmod (wrap64 ((wrap64 ((wrap64 ((wrap64 (s0_1 + 1)) - 1)) * 7)) + 3)) (s0_0.length : Int)) = j_ := ⟨_, rfl⟩
  replace H : (if 0 ≤ (ji17) then (if (ji17) < (s0_0.length : Int) then (if a1 = 0 then (none) else (some (Int.tmod (Go.bits .xor .i64 (wrap64 ((wrap64 ((wrap64 ((wrap64 ((wrap64 (rd s0_0 (ji14))) * 131)) + (wrap64 ((wrap64 (rd s0_0 (ji17))) * 1117)))) + (wrap64 ((wrap64 ((wrap64 (s0_1 + 1)) - 1)) * 29)))) + (wrap64 ((wrap64 (Int.tdiv (wrap64 ((wrap64 (s0_1 + 1)) - 1)) (s0_0.length : Int))) * 53)))) (wrap64 (Int.tdiv (wrap64 ((wrap64 ((wrap64 ((wrap64 ((wrap64 (rd s0_0 (ji14))) * 131)) + (wrap64 ((wrap64 (rd s0_0 (ji17))) * 1117)))) + (wrap64 ((wrap64 ((wrap64 (s0_1 + 1)) - 1)) * 29)))) + (wrap64 ((wrap64 (Int.tdiv (wrap64 ((wrap64 (s0_1 + 1)) - 1)) (s0_0.length : Int))) * 53)))) 64))) a1, (wrap64 (s0_1 + 1))))) else (none)) else (none)) = some (r1, r2) := by first | (rw [hji17] at H; exact H) | (simp only [hji17] at H ⊢; exact H)
  by_cases c18 : 0 ≤ (ji17)
  rotate_left
  · rw [if_neg c18] at H
    exact absurd H (by simp)
  rw [if_pos c18] at H
  have c18b0 : decide (0 ≤ (ji17)) = true := decide_eq_true c18
  clear c18
  by_cases c19 : (ji17) < (s0_0.length : Int)
  rotate_left
  · rw [if_neg c19] at H
    exact absurd H (by simp)
  rw [if_pos c19] at H
  have c19b0 : decide ((ji17) < (s0_0.length : Int)) = true := decide_eq_true c19
  clear c19
  by_cases c20 : a1 = 0
  · rw [if_pos c20] at H
    exact absurd H (by simp)
  rw [if_neg c20] at H
  have c20b0 : (a1 == 0) = false := beq_eq_false_iff_ne.mpr c20
  have c20b1 : (a1 != 0) = true := bne_iff_ne.mpr c20
  simp only [Option.some.injEq, Prod.mk.injEq] at H
  obtain ⟨rfl, rfl⟩ := H
  obtain ⟨ASz21_0, cSz21_0, HGz21, hgz21, HSz21_0⟩ := HI0.out
  have hcz21_0 := cellS93_0 HGz21
  have hcz21_1 := cellS93_1 HGz21
  have hfz21_1 := blk_frozen HGz21 1
  clear HGz21 hgz21
  have p175 : 0 ≤ ((ji14) : Int) := of_decide_eq_true zl
  have q175 : (ji14) < (s0_0.length : Int) := of_decide_eq_true zl
  obtain ⟨ad175, e175, hx175_0⟩ := Kd.at_int HSz21_0 (ji14) p175 q175
  cases e175
  replace hx175_0 := pw_cell_below HB.out hx175_0
  replace p175 := eq_true p175
  replace q175 := eq_true q175
  have p176 : 0 ≤ ((ji17) : Int) := of_decide_eq_true zl
  have q176 : (ji17) < (s0_0.length : Int) := of_decide_eq_true zl
  obtain ⟨ad176, e176, hx176_0⟩ := Kd.at_int HSz21_0 (ji17) p176 q176
  obtain rfl : ad175 = ad176 := (by injection e176)
  replace hx176_0 := pw_cell_below HB.out hx176_0
  replace p176 := eq_true p176
  replace q176 := eq_true q176
  go_wp2
  repeat (go_quiet (fail); try go_wp2)
  go_ret
  exact ⟨by first | rfl | (simp [errW_none, errW_some] <;> rfl) | (simp only [← hji14, ← hji17]; first | rfl | (simp [errW_none, errW_some] <;> rfl)) | (simp [*, errW_none, errW_some] <;> rfl), (zi HI0), (zb HB), (zh HK)⟩
/-! ### spec_StoreNew: function 86 -/
def spec_StoreNew.f  : Option ((List (S55))) := if 8 ≤ 11728124029610 then (some (List.replicate 8 z55)) else (none)
set_option maxHeartbeats 8000000 in
set_option maxRecDepth 100000 in
theorem spec_StoreNew.calls  (r : List (S55)) (w : World) (h : spec_StoreNew.f  = some r) :
 Calls Try.prog 86 #[] w fun e w' => ∃ v0_ : Value, e = .returned (v0_) ∧ Kd.R k55 55 w' w.heap.size (fun _ => True) v0_ r ∧ Below w.heap.size w w' := by
 have HB := am (Below.refl w.heap.size w)
 have H : (if 8 ≤ 11728124029610 then (some (List.replicate 8 z55)) else (none)) = some r := h
 clear h
 by_cases c1 : 8 ≤ 11728124029610
 rotate_left
 · rw [if_neg c1] at H
   exact absurd H (by simp)
 rw [if_pos c1] at H
 have c1b0 := eq_true c1
 have c1b1 : decide (8 ≤ 11728124029610) = true := decide_eq_true c1
 clear c1
 obtain ⟨y177, hy177⟩ : ∃ y_ : List (S55), y_ = (List.replicate 8 z55) := ⟨_, rfl⟩
 replace H : (some y177) = some r := hY hy177 H
 have Ny177 := am hy177
 clear hy177
 obtain rfl := Option.some.inj H
 go_enter Try.func86, Try.ntmps86
 go_wp2_with (first | ((with_reducible refine gate_dst (N := 1) rfl ?_); refine Kd.R_make k55 _ 55 rfl (N := 1) rfl 28 _ _ rfl 8 rfl rfl Try.underlying28 (.agg #[(.string ⟨#[]⟩), (.int .i64 0)]) 24 info55 rfl (by decide) (by omega) z55 (ok := fun _ => True) (okp := fun _ => True) (k55_mkM _ _ _ z55 ) (fun _ hk => hk) trivial (by omega) (by omega) (Below.refl _ _) (Nat.le_refl _) ?_; intro v178 w2 ho3 hb hg_ hnew_; clear hg_ hnew_; (first | rw [← Ny177.out] at ho3 | (simp only [Int.reduceToNat] at ho3; rw [← Ny177.out] at ho3)); have HO179 := am (Kd.R_lower ho3 (below_size (zb HB))); replace HB := am (below_step (zb HB) hb); clear hb ho3))
 go_ret
 exact ⟨_, zw, (zr HO179), (zb HB)⟩
end Go.Proofs.Ytooamacekmjpaaa.PFnPoolText
