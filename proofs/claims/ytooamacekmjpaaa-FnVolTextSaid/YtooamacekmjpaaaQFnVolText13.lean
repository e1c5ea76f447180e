/- The walk: each function that the law comes to as a plain Lean function, and a proof that the Go code answers so. Written by this session's program over the kit's printer. -/
import Derived.Test.YtooamacekmjpaaaZ
import Derived.Test.YtooamacekmjpaaaQFnVolText0
import Derived.Test.YtooamacekmjpaaaQFnVolText1
import Derived.Test.YtooamacekmjpaaaQFnVolText2
namespace Go.Proofs.Ytooamacekmjpaaa.PFnVolText
open Go.RowKit Go.Proofs.YtooamacekmjpaaaW.PrintWords Go.Proofs.YtooamacekmjpaaaW.PrintLast Go.Proofs.YtooamacekmjpaaaW.PrintMore
attribute [local go_sem] max2_int min2_int max_two min_two max_three min_three max_four min_four   -- for this text's walks alone
set_option linter.unusedVariables false
set_option linter.unusedSimpArgs false
/-! ### spec_StoreOk: function 41 -/
mutual
def spec_StoreOk.l0 : Nat → List (S55) → Int → Option (Bool)
 | 0, _, _ => none
 | k + 1, x0, x3 => if x3 < (x0.length : Int) then (if 0 ≤ x3 then ((spec_TextOk.f k ((rd_T55 x0 x3).f0)).bind fun t515 => (if t515 = true then ((spec_l6In.f ((rd_T55 x0 x3).f1) 0 99).bind fun t517 => (if t517 = true then (spec_StoreOk.j1 k x0 x3 ((((rd_T55 x0 x3).f1) == 0) != (((rd_T55 x0 x3).f0).toList == ([] : List UInt8)))) else (spec_StoreOk.j1 k x0 x3 true))) else (spec_StoreOk.j1 k x0 x3 true))) else (none)) else (some ((x0.length : Int) == 8))
def spec_StoreOk.j1 : Nat → List (S55) → Int → Bool → Option (Bool)
 | 0, _, _, _ => none
 | k + 1, x0, x3, x41 => if x41 = true then (some false) else (spec_StoreOk.l1 k x0 x3 0)
def spec_StoreOk.l1 : Nat → List (S55) → Int → Int → Option (Bool)
 | 0, _, _, _ => none
 | k + 1, x0, x3, x4 => if x4 < x3 then (if 0 ≤ x3 then (if x3 < (x0.length : Int) then (if ((rd_T55 x0 x3).f0).toList = ([] : List UInt8) then (spec_StoreOk.l1 k x0 x3 (wrap64 (x4 + 1))) else (if 0 ≤ x4 then (if x4 < (x0.length : Int) then (if ((rd_T55 x0 x3).f0).toList = ((rd_T55 x0 x4).f0).toList then (some false) else (spec_StoreOk.l1 k x0 x3 (wrap64 (x4 + 1)))) else (none)) else (none))) else (none)) else (none)) else (spec_StoreOk.l0 k x0 (wrap64 (x3 + 1)))
end
def spec_StoreOk.f (k : Nat) (l0 : List (S55)) : Option (Bool) := spec_StoreOk.l0 k l0 0
theorem spec_StoreOk.mono_l : ∀ k, (∀ y0 y1, LeO (spec_StoreOk.l0 k y0 y1) (spec_StoreOk.l0 (k + 1) y0 y1)) ∧ (∀ y0 y1 y2, LeO (spec_StoreOk.j1 k y0 y1 y2) (spec_StoreOk.j1 (k + 1) y0 y1 y2)) ∧ (∀ y0 y1 y2, LeO (spec_StoreOk.l1 k y0 y1 y2) (spec_StoreOk.l1 (k + 1) y0 y1 y2))
 | 0 => ⟨fun _ _ r h => by simp [spec_StoreOk.l0] at h, fun _ _ _ r h => by simp [spec_StoreOk.j1] at h, fun _ _ _ r h => by simp [spec_StoreOk.l1] at h⟩
 | k + 1 => by
  obtain ⟨ih0, ih1, ih2⟩ := spec_StoreOk.mono_l k
  refine ⟨?_, ?_, ?_⟩
  · intro y0 y1
    unfold spec_StoreOk.l0
    exact mo4 ih0 ih1 ih2 @spec_TextOk.mono
  · intro y0 y1 y2
    unfold spec_StoreOk.j1
    exact mo4 ih0 ih1 ih2 @spec_TextOk.mono
  intro y0 y1 y2
  unfold spec_StoreOk.l1
  exact mo4 ih0 ih1 ih2 @spec_TextOk.mono
theorem spec_StoreOk.mono : ∀ a0 k, LeO (spec_StoreOk.f k a0) (spec_StoreOk.f (k + 1) a0) := by
 intro a0 k
 obtain ⟨ih0, ih1, ih2⟩ := spec_StoreOk.mono_l k
 unfold spec_StoreOk.f
 exact mo4 ih0 ih1 ih2 @spec_TextOk.mono
def spec_StoreOk.T4 : Bool × List (List Nat × List Nat) := (true, [([], []), ([], []), ([0, 1], [0, 1]), ([2], [2]), ([3], [3]), ([4], [4]), ([5], [5]), ([6, 5], [6]), ([7], [7]), ([7], [7]), ([8, 9, 7], [7, 8, 9]), ([10, 7], [7, 10]), ([11, 7], [7, 11]), ([12, 7, 7], [7, 12]), ([13, 7], [7, 13]), ([7, 14], [7, 14]), ([15, 13], [15]), ([16], [16]), ([16], [16]), ([17, 18, 16], [16, 17, 18]), ([19, 16], [16, 19]), ([20, 16], [16, 20]), ([21, 16], [16, 21]), ([16], [16]), ([16], [16]), ([23, 24, 16], [16, 23, 24]), ([25, 16], [16, 25]), ([26, 16], [16, 26]), ([27, 16], [16, 27]), ([22, 28, 16], [16, 22, 28]), ([16, 29], [16, 29])])
def spec_StoreOk.B4 : List Nat := [0, 0, 3, 7, 15, 31, 63, 127, 255, 255, 1023, 2047, 4095, 8191, 16383, 32767, 65535, 131071, 131071, 524287, 1048575, 2097151, 4194303, 131071, 131071, 25296895, 58851327, 125960191, 260177919, 536870911, 1073741823]
theorem spec_StoreOk.tab4 : rtab .any (opsOf Try.f41 4) = spec_StoreOk.T4 := by kernel_rfl
theorem spec_StoreOk.bits4 : waitsOk spec_StoreOk.T4.2 spec_StoreOk.B4 = true := by kernel_rfl
def spec_StoreOk.T9 : Bool × List (List Nat × List Nat) := (true, [([], []), ([], []), ([0, 1], [0, 1]), ([2], [2]), ([3], [3]), ([4], [4]), ([5], [5]), ([6], [6]), ([6], [6]), ([7, 8, 6], [6, 7, 8]), ([9, 6], [6, 9]), ([10, 6], [6, 10]), ([6], [6]), ([6], [6]), ([12, 13, 6], [6, 12, 13]), ([14, 6], [6, 14]), ([15, 6], [6, 15]), ([11, 16, 6], [6, 11, 16]), ([6, 17], [6, 17])])
def spec_StoreOk.B9 : List Nat := [0, 0, 3, 7, 15, 31, 63, 127, 127, 511, 1023, 2047, 127, 127, 12415, 28799, 61567, 131071, 262143]
theorem spec_StoreOk.tab9 : rtab .any (opsOf Try.f41 9) = spec_StoreOk.T9 := by kernel_rfl
theorem spec_StoreOk.bits9 : waitsOk spec_StoreOk.T9.2 spec_StoreOk.B9 = true := by kernel_rfl
set_option maxHeartbeats 8000000 in
set_option maxRecDepth 100000 in
theorem spec_StoreOk.calls (k : Nat) (A0 : Option Addr) (c0 : Nat) (l0 : List (S55)) (r : Bool) (w : World) (hr0 : Kd.C k55 w A0 l0.length l0) (hc0 : l0.length ≤ c0) (h : spec_StoreOk.f k l0 = some r) :
 Calls Try.prog 41 #[.slice A0 l0.length c0] w fun e w' => e = .returned (.bool r) ∧ Below w.heap.size w w' := by
 have HR0 := am hr0
 have HC0 := am hc0
 clear hr0 hc0
 have HB := am (Below.refl w.heap.size w)
 have H : (spec_StoreOk.l0 k l0 0) = some r := h
 clear h
 have H' := am H
 clear H
 go_enter Try.func41, Try.ntmps41
 go_wp2
 go_loopg [3] k (fun kq v3 w' => ∃ (x3_1 : Int), v3 = .int .i64 x3_1 ∧ Aside0 (spec_StoreOk.l0 kq l0 x3_1 = some r) ∧ Aside0 (kq ≤ k) ∧ Aside0 (Below w.heap.size w w'))
 case atStart => exact ⟨(0), ze, H', ⟨Nat.le_refl _⟩, ⟨zb HB⟩⟩
 case round =>
  clear H'
  obtain ⟨x3_1, rfl, HA, HK1, HB⟩ := hrel
  cases gk with
  | zero => exact absurd HA.out (by simp [spec_StoreOk.l0])
  | succ k1 =>
   have H := HA.out
   clear HA
   simp only [spec_StoreOk.l0] at H
   by_cases c2 : x3_1 < (l0.length : Int)
   rotate_left
   · rw [if_neg c2] at H
     have c2b0 : decide (x3_1 < (l0.length : Int)) = false := decide_eq_false c2
     clear c2
     obtain rfl := Option.some.inj H
     go_wp2
     go_ret
     exact ⟨zv, (zb HB)⟩
   rw [if_pos c2] at H
   have c2b0 : decide (x3_1 < (l0.length : Int)) = true := decide_eq_true c2
   clear c2
   have HC3 := am H
   clear H
   go_upto_region 4 with (fail)
   go_cut [41] (fun v41 wc => ∃ (kq : Nat) (x41_2 : Bool), v41 = .bool x41_2 ∧ Aside0 (spec_StoreOk.j1 kq l0 x3_1 x41_2 = some r) ∧ Aside0 (kq ≤ k1) ∧ Aside0 (Below w.heap.size w wc))
   case first =>
    have H := HC3.out
    clear HC3
    by_cases c4 : 0 ≤ x3_1
    rotate_left
    · rw [if_neg c4] at H
      exact absurd H (by simp)
    rw [if_pos c4] at H
    have c4b0 : decide (0 ≤ x3_1) = true := decide_eq_true c4
    clear c4
    (first | rw [c4b0] | (simp only [i64_w, i32_w]; rw [c4b0]) | skip)
    replace H := obs H
    obtain ⟨t515, A50, H⟩ := H
    replace H : (if t515 = true then ((spec_l6In.f ((rd_T55 l0 x3_1).f1) 0 99).bind fun t517 => (if t517 = true then (spec_StoreOk.j1 k1 l0 x3_1 ((((rd_T55 l0 x3_1).f1) == 0) != (((rd_T55 l0 x3_1).f0).toList == ([] : List UInt8)))) else (spec_StoreOk.j1 k1 l0 x3_1 true))) else (spec_StoreOk.j1 k1 l0 x3_1 true)) = some r := H
    have A5 := am A50
    clear A50
    by_cases c6 : t515 = true
    rotate_left
    · replace c6 := Bool.eq_false_iff.mpr c6
      subst c6
      have H1 : (spec_StoreOk.j1 k1 l0 x3_1 true) = some r := by rw [if_neg (show ¬ (false = true) by decide)] at H; exact H
      clear H
      have H := H1
      clear H1
      have H' := am H
      clear H
      try go_wp2
      replace HB := am (below_drew1 HB.out)
      have p514 : 0 ≤ (x3_1 : Int) := of_decide_eq_true zl
      have q514 : x3_1 < (l0.length : Int) := of_decide_eq_true zl
      obtain ⟨ad514, e514, hx514_0, hx514_1⟩ := at_T55 HR0.out x3_1 p514 q514
      have hw514_1 := hx514_1
      have hw514_0 := hx514_0
      cases e514
      replace hx514_0 := hcx HB hx514_0
      replace hx514_1 := hcx HB hx514_1
      replace p514 := eq_true p514
      replace q514 := eq_true q514
      refine start_ (n := 31) (S := fun w' => w'.cell? (ad514.add ((x3_1).toNat * 2)) = some (.string ((rd_T55 l0 x3_1).f0)) ∧ w'.cell? ⟨(ad514.add ((x3_1).toNat * 2)).block, (ad514.add ((x3_1).toNat * 2)).off + 1, none⟩ = some (.int .i64 ((rd_T55 l0 x3_1).f1))) (ds := []) (bs 31 0) (by kernel_rfl) rfl rfl ⟨(hcx HB hw514_0), (hcx HB hw514_1)⟩ (fun hHeld => ?_); refine with_tabW spec_StoreOk.tab4 spec_StoreOk.bits4 (fun HT_ HW_ => ?_)
      generalize wr.drew = w11 at HB hx514_0 hx514_1 hHeld ⊢
      refine pu 0 11 31 1 rfl rfl ?_
      refine pu 1 12 31 3 rfl rfl ?_
      refine pu 2 13 31 7 rfl rfl ?_
      refine pu 3 14 31 15 rfl rfl ?_
      refine ta2 4 15 31 31 rfl rfl hHeld ?_
      refine oz 5 31 63 rfl rfl (fun K hK => ?_)
      refine gs Try.func65 #[.string ((rd_T55 l0 x3_1).f0)] rfl rfl ?_
      with_reducible refine (spec_TextOk.calls k1 ((rd_T55 l0 x3_1).f0) false _ A5.out).mono ?_
      rintro e w' ⟨rfl, ⟨nd, rfl⟩⟩
      refine ⟨_, rfl, ?_⟩
      refine hK.out _ _ ⟨(hcx HB hw514_0), (hcx HB hw514_1)⟩ (fun hHeld => ?_)
      clear hK K
      refine norm_ (a' := ?_) ?_ ?_
      rotate_left
      · show Act.put _ (some 16) _ = _
        simp only [Act.put, List.setIfInBounds_toArray, List.set_cons_zero, List.set_cons_succ, i64_w, i32_w]
        rfl
      refine pu 6 17 31 127 rfl rfl ?_
      refine pu 7 18 31 255 rfl rfl ?_
      refine po 8 19 31 511 rfl rfl ?_
      refine po 9 20 31 1023 rfl rfl ?_
      refine po 10 21 31 2047 rfl rfl ?_
      refine po 11 22 31 4095 rfl rfl ?_
      refine po 12 23 31 8191 rfl rfl ?_
      refine po 13 24 31 16383 rfl rfl ?_
      refine po 14 25 31 32767 rfl rfl ?_
      refine pu 15 26 31 65535 rfl rfl ?_
      refine pu 16 27 31 131071 rfl rfl ?_
      refine po 17 28 31 262143 rfl rfl ?_
      refine po 18 29 31 524287 rfl rfl ?_
      refine po 19 30 31 1048575 rfl rfl ?_
      refine po 20 31 31 2097151 rfl rfl ?_
      refine po 21 32 31 4194303 rfl rfl ?_
      refine po 22 33 31 8388607 rfl rfl ?_
      refine po 23 34 31 16777215 rfl rfl ?_
      refine po 24 35 31 33554431 rfl rfl ?_
      refine po 25 36 31 67108863 rfl rfl ?_
      refine po 26 37 31 134217727 rfl rfl ?_
      refine po 27 38 31 268435455 rfl rfl ?_
      refine po 28 39 31 536870911 rfl rfl ?_
      refine po 29 40 31 1073741823 rfl rfl ?_
      refine pu 30 41 31 2147483647 rfl rfl ?_
      refine done_ (done_of HT_.out (by kernel_rfl)) ?_
      try go_wp2
      go_meet
      case rel => exact ⟨_, (true), ze, H', ⟨by have := HK1.out; first | omega | exact Nat.le_refl _⟩, ⟨zb HB⟩⟩
    subst c6
    have H1 : ((spec_l6In.f ((rd_T55 l0 x3_1).f1) 0 99).bind fun t517 => (if t517 = true then (spec_StoreOk.j1 k1 l0 x3_1 ((((rd_T55 l0 x3_1).f1) == 0) != (((rd_T55 l0 x3_1).f0).toList == ([] : List UInt8)))) else (spec_StoreOk.j1 k1 l0 x3_1 true))) = some r := by rw [if_pos rfl] at H; exact H
    clear H
    have H := H1
    clear H1
    replace H := obs H
    obtain ⟨t517, A70, H⟩ := H
    replace H : (if t517 = true then (spec_StoreOk.j1 k1 l0 x3_1 ((((rd_T55 l0 x3_1).f1) == 0) != (((rd_T55 l0 x3_1).f0).toList == ([] : List UInt8)))) else (spec_StoreOk.j1 k1 l0 x3_1 true)) = some r := H
    have A7 := am A70
    clear A70
    by_cases c8 : t517 = true
    rotate_left
    · replace c8 := Bool.eq_false_iff.mpr c8
      subst c8
      have H1 : (spec_StoreOk.j1 k1 l0 x3_1 true) = some r := by rw [if_neg (show ¬ (false = true) by decide)] at H; exact H
      clear H
      have H := H1
      clear H1
      have H' := am H
      clear H
      try go_wp2
      replace HB := am (below_drew1 HB.out)
      have p514 : 0 ≤ (x3_1 : Int) := of_decide_eq_true zl
      have q514 : x3_1 < (l0.length : Int) := of_decide_eq_true zl
      obtain ⟨ad514, e514, hx514_0, hx514_1⟩ := at_T55 HR0.out x3_1 p514 q514
      have hw514_1 := hx514_1
      have hw514_0 := hx514_0
      cases e514
      replace hx514_0 := hcx HB hx514_0
      replace hx514_1 := hcx HB hx514_1
      replace p514 := eq_true p514
      replace q514 := eq_true q514
      have p516 : 0 ≤ (x3_1 : Int) := of_decide_eq_true zl
      have q516 : x3_1 < (l0.length : Int) := of_decide_eq_true zl
      obtain ⟨ad516, e516, hx516_0, hx516_1⟩ := at_T55 HR0.out x3_1 p516 q516
      have hw516_1 := hx516_1
      have hw516_0 := hx516_0
      obtain rfl : ad514 = ad516 := (by injection e516)
      replace hx516_0 := hcx HB hx516_0
      replace hx516_1 := hcx HB hx516_1
      replace p516 := eq_true p516
      replace q516 := eq_true q516
      refine start_ (n := 31) (S := fun w' => w'.cell? (ad514.add ((x3_1).toNat * 2)) = some (.string ((rd_T55 l0 x3_1).f0)) ∧ w'.cell? ⟨(ad514.add ((x3_1).toNat * 2)).block, (ad514.add ((x3_1).toNat * 2)).off + 1, none⟩ = some (.int .i64 ((rd_T55 l0 x3_1).f1)) ∧ w'.cell? (ad514.add ((x3_1).toNat * 2)) = some (.string ((rd_T55 l0 x3_1).f0)) ∧ w'.cell? ⟨(ad514.add ((x3_1).toNat * 2)).block, (ad514.add ((x3_1).toNat * 2)).off + 1, none⟩ = some (.int .i64 ((rd_T55 l0 x3_1).f1))) (ds := []) (bs 31 0) (by kernel_rfl) rfl rfl ⟨(hcx HB hw514_0), (hcx HB hw514_1), (hcx HB hw516_0), (hcx HB hw516_1)⟩ (fun hHeld => ?_); refine with_tabW spec_StoreOk.tab4 spec_StoreOk.bits4 (fun HT_ HW_ => ?_)
      generalize wr.drew = w10 at HB hx514_0 hx514_1 hx516_0 hx516_1 hHeld ⊢
      refine pu 0 11 31 1 rfl rfl ?_
      refine pu 1 12 31 3 rfl rfl ?_
      refine pu 2 13 31 7 rfl rfl ?_
      refine pu 3 14 31 15 rfl rfl ?_
      refine ta4 4 15 31 31 rfl rfl hHeld ?_
      refine oz 5 31 63 rfl rfl (fun K hK => ?_)
      refine gs Try.func65 #[.string ((rd_T55 l0 x3_1).f0)] rfl rfl ?_
      with_reducible refine (spec_TextOk.calls k1 ((rd_T55 l0 x3_1).f0) true _ A5.out).mono ?_
      rintro e w' ⟨rfl, ⟨nd, rfl⟩⟩
      refine ⟨_, rfl, ?_⟩
      refine hK.out _ _ ⟨(hcx HB hw514_0), (hcx HB hw514_1), (hcx HB hw516_0), (hcx HB hw516_1)⟩ (fun hHeld => ?_)
      clear hK K
      refine norm_ (a' := ?_) ?_ ?_
      rotate_left
      · show Act.put _ (some 16) _ = _
        simp only [Act.put, List.setIfInBounds_toArray, List.set_cons_zero, List.set_cons_succ, i64_w, i32_w]
        rfl
      refine pu 6 17 31 127 rfl rfl ?_
      refine pu 7 18 31 255 rfl rfl ?_
      refine pu 8 19 31 511 rfl rfl ?_
      refine pu 9 20 31 1023 rfl rfl ?_
      refine pu 10 21 31 2047 rfl rfl ?_
      refine pu 11 22 31 4095 rfl rfl ?_
      refine ta4 12 23 31 8191 rfl rfl hHeld ?_
      refine oz 13 31 16383 rfl rfl (fun K hK => ?_)
      refine gs Try.func55 #[.int .i64 ((rd_T55 l0 x3_1).f1), .int .i64 0, .int .i64 99] rfl rfl ?_
      with_reducible refine (spec_l6In.calls ((rd_T55 l0 x3_1).f1) 0 99 false _ A7.out).mono ?_
      rintro e w' ⟨rfl, ⟨nd, rfl⟩⟩
      refine ⟨_, rfl, ?_⟩
      refine hK.out _ _ ⟨(hcx HB hw514_0), (hcx HB hw514_1), (hcx HB hw516_0), (hcx HB hw516_1)⟩ (fun hHeld => ?_)
      clear hK K
      refine norm_ (a' := ?_) ?_ ?_
      rotate_left
      · show Act.put _ (some 24) _ = _
        simp only [Act.put, List.setIfInBounds_toArray, List.set_cons_zero, List.set_cons_succ, i64_w, i32_w]
        rfl
      refine pu 14 25 31 32767 rfl rfl ?_
      refine pu 15 26 31 65535 rfl rfl ?_
      refine pu 16 27 31 131071 rfl rfl ?_
      refine po 17 28 31 262143 rfl rfl ?_
      refine po 18 29 31 524287 rfl rfl ?_
      refine po 19 30 31 1048575 rfl rfl ?_
      refine po 20 31 31 2097151 rfl rfl ?_
      refine po 21 32 31 4194303 rfl rfl ?_
      refine po 22 33 31 8388607 rfl rfl ?_
      refine po 23 34 31 16777215 rfl rfl ?_
      refine po 24 35 31 33554431 rfl rfl ?_
      refine po 25 36 31 67108863 rfl rfl ?_
      refine po 26 37 31 134217727 rfl rfl ?_
      refine po 27 38 31 268435455 rfl rfl ?_
      refine po 28 39 31 536870911 rfl rfl ?_
      refine po 29 40 31 1073741823 rfl rfl ?_
      refine pu 30 41 31 2147483647 rfl rfl ?_
      refine done_ (done_of HT_.out (by kernel_rfl)) ?_
      try go_wp2
      go_meet
      case rel => exact ⟨_, (true), ze, H', ⟨by have := HK1.out; first | omega | exact Nat.le_refl _⟩, ⟨zb HB⟩⟩
    subst c8
    have H1 : (spec_StoreOk.j1 k1 l0 x3_1 ((((rd_T55 l0 x3_1).f1) == 0) != (((rd_T55 l0 x3_1).f0).toList == ([] : List UInt8)))) = some r := by rw [if_pos rfl] at H; exact H
    clear H
    have H := H1
    clear H1
    have H' := am H
    clear H
    try go_wp2
    replace HB := am (below_drew1 HB.out)
    have p514 : 0 ≤ (x3_1 : Int) := of_decide_eq_true zl
    have q514 : x3_1 < (l0.length : Int) := of_decide_eq_true zl
    obtain ⟨ad514, e514, hx514_0, hx514_1⟩ := at_T55 HR0.out x3_1 p514 q514
    have hw514_1 := hx514_1
    have hw514_0 := hx514_0
    cases e514
    replace hx514_0 := hcx HB hx514_0
    replace hx514_1 := hcx HB hx514_1
    replace p514 := eq_true p514
    replace q514 := eq_true q514
    have p516 : 0 ≤ (x3_1 : Int) := of_decide_eq_true zl
    have q516 : x3_1 < (l0.length : Int) := of_decide_eq_true zl
    obtain ⟨ad516, e516, hx516_0, hx516_1⟩ := at_T55 HR0.out x3_1 p516 q516
    have hw516_1 := hx516_1
    have hw516_0 := hx516_0
    obtain rfl : ad514 = ad516 := (by injection e516)
    replace hx516_0 := hcx HB hx516_0
    replace hx516_1 := hcx HB hx516_1
    replace p516 := eq_true p516
    replace q516 := eq_true q516
    have p518 : 0 ≤ (x3_1 : Int) := of_decide_eq_true zl
    have q518 : x3_1 < (l0.length : Int) := of_decide_eq_true zl
    obtain ⟨ad518, e518, hx518_0, hx518_1⟩ := at_T55 HR0.out x3_1 p518 q518
    have hw518_1 := hx518_1
    have hw518_0 := hx518_0
    obtain rfl : ad514 = ad518 := (by injection e518)
    replace hx518_0 := hcx HB hx518_0
    replace hx518_1 := hcx HB hx518_1
    replace p518 := eq_true p518
    replace q518 := eq_true q518
    have p519 : 0 ≤ (x3_1 : Int) := of_decide_eq_true zl
    have q519 : x3_1 < (l0.length : Int) := of_decide_eq_true zl
    obtain ⟨ad519, e519, hx519_0, hx519_1⟩ := at_T55 HR0.out x3_1 p519 q519
    have hw519_1 := hx519_1
    have hw519_0 := hx519_0
    obtain rfl : ad514 = ad519 := (by injection e519)
    replace hx519_0 := hcx HB hx519_0
    replace hx519_1 := hcx HB hx519_1
    replace p519 := eq_true p519
    replace q519 := eq_true q519
    refine start_ (n := 31) (S := fun w' => w'.cell? (ad514.add ((x3_1).toNat * 2)) = some (.string ((rd_T55 l0 x3_1).f0)) ∧ w'.cell? ⟨(ad514.add ((x3_1).toNat * 2)).block, (ad514.add ((x3_1).toNat * 2)).off + 1, none⟩ = some (.int .i64 ((rd_T55 l0 x3_1).f1)) ∧ w'.cell? (ad514.add ((x3_1).toNat * 2)) = some (.string ((rd_T55 l0 x3_1).f0)) ∧ w'.cell? ⟨(ad514.add ((x3_1).toNat * 2)).block, (ad514.add ((x3_1).toNat * 2)).off + 1, none⟩ = some (.int .i64 ((rd_T55 l0 x3_1).f1)) ∧ w'.cell? (ad514.add ((x3_1).toNat * 2)) = some (.string ((rd_T55 l0 x3_1).f0)) ∧ w'.cell? ⟨(ad514.add ((x3_1).toNat * 2)).block, (ad514.add ((x3_1).toNat * 2)).off + 1, none⟩ = some (.int .i64 ((rd_T55 l0 x3_1).f1)) ∧ w'.cell? (ad514.add ((x3_1).toNat * 2)) = some (.string ((rd_T55 l0 x3_1).f0)) ∧ w'.cell? ⟨(ad514.add ((x3_1).toNat * 2)).block, (ad514.add ((x3_1).toNat * 2)).off + 1, none⟩ = some (.int .i64 ((rd_T55 l0 x3_1).f1))) (ds := []) (bs 31 0) (by kernel_rfl) rfl rfl ⟨(hcx HB hw514_0), (hcx HB hw514_1), (hcx HB hw516_0), (hcx HB hw516_1), (hcx HB hw518_0), (hcx HB hw518_1), (hcx HB hw519_0), (hcx HB hw519_1)⟩ (fun hHeld => ?_); refine with_tabW spec_StoreOk.tab4 spec_StoreOk.bits4 (fun HT_ HW_ => ?_)
    generalize wr.drew = w9 at HB hx514_0 hx514_1 hx516_0 hx516_1 hx518_0 hx518_1 hx519_0 hx519_1 hHeld ⊢
    refine pu 0 11 31 1 rfl rfl ?_
    refine pu 1 12 31 3 rfl rfl ?_
    refine pu 2 13 31 7 rfl rfl ?_
    refine pu 3 14 31 15 rfl rfl ?_
    refine ta8 4 15 31 31 rfl rfl hHeld ?_
    refine oz 5 31 63 rfl rfl (fun K hK => ?_)
    refine gs Try.func65 #[.string ((rd_T55 l0 x3_1).f0)] rfl rfl ?_
    with_reducible refine (spec_TextOk.calls k1 ((rd_T55 l0 x3_1).f0) true _ A5.out).mono ?_
    rintro e w' ⟨rfl, ⟨nd, rfl⟩⟩
    refine ⟨_, rfl, ?_⟩
    refine hK.out _ _ ⟨(hcx HB hw514_0), (hcx HB hw514_1), (hcx HB hw516_0), (hcx HB hw516_1), (hcx HB hw518_0), (hcx HB hw518_1), (hcx HB hw519_0), (hcx HB hw519_1)⟩ (fun hHeld => ?_)
    clear hK K
    refine norm_ (a' := ?_) ?_ ?_
    rotate_left
    · show Act.put _ (some 16) _ = _
      simp only [Act.put, List.setIfInBounds_toArray, List.set_cons_zero, List.set_cons_succ, i64_w, i32_w]
      rfl
    refine pu 6 17 31 127 rfl rfl ?_
    refine pu 7 18 31 255 rfl rfl ?_
    refine pu 8 19 31 511 rfl rfl ?_
    refine pu 9 20 31 1023 rfl rfl ?_
    refine pu 10 21 31 2047 rfl rfl ?_
    refine pu 11 22 31 4095 rfl rfl ?_
    refine ta8 12 23 31 8191 rfl rfl hHeld ?_
    refine oz 13 31 16383 rfl rfl (fun K hK => ?_)
    refine gs Try.func55 #[.int .i64 ((rd_T55 l0 x3_1).f1), .int .i64 0, .int .i64 99] rfl rfl ?_
    with_reducible refine (spec_l6In.calls ((rd_T55 l0 x3_1).f1) 0 99 true _ A7.out).mono ?_
    rintro e w' ⟨rfl, ⟨nd, rfl⟩⟩
    refine ⟨_, rfl, ?_⟩
    refine hK.out _ _ ⟨(hcx HB hw514_0), (hcx HB hw514_1), (hcx HB hw516_0), (hcx HB hw516_1), (hcx HB hw518_0), (hcx HB hw518_1), (hcx HB hw519_0), (hcx HB hw519_1)⟩ (fun hHeld => ?_)
    clear hK K
    refine norm_ (a' := ?_) ?_ ?_
    rotate_left
    · show Act.put _ (some 24) _ = _
      simp only [Act.put, List.setIfInBounds_toArray, List.set_cons_zero, List.set_cons_succ, i64_w, i32_w]
      rfl
    refine pu 14 25 31 32767 rfl rfl ?_
    refine pu 15 26 31 65535 rfl rfl ?_
    refine pu 16 27 31 131071 rfl rfl ?_
    refine pu 17 28 31 262143 rfl rfl ?_
    refine pu 18 29 31 524287 rfl rfl ?_
    refine pu 19 30 31 1048575 rfl rfl ?_
    refine pu 20 31 31 2097151 rfl rfl ?_
    refine pu 23 34 31 10485759 rfl rfl ?_
    refine pu 24 35 31 27262975 rfl rfl ?_
    refine pu 25 36 31 60817407 rfl rfl ?_
    refine pu 26 37 31 127926271 rfl rfl ?_
    refine ta8 21 32 31 130023423 rfl rfl hHeld ?_
    refine pu 22 33 31 134217727 rfl rfl ?_
    refine ta8 27 38 31 268435455 rfl rfl hHeld ?_
    refine pu 28 39 31 536870911 rfl rfl ?_
    refine pu 29 40 31 1073741823 rfl rfl ?_
    refine pu 30 41 31 2147483647 rfl rfl ?_
    refine done_ (done_of HT_.out (by kernel_rfl)) ?_
    try go_wp2
    go_meet
    case rel => exact ⟨_, (((((rd_T55 l0 x3_1).f1) == 0) != (((rd_T55 l0 x3_1).f0).toList == ([] : List UInt8)))), ze, H', ⟨by have := HK1.out; first | omega | exact Nat.le_refl _⟩, ⟨zb HB⟩⟩
   clear HC3
   try clear p2
   try clear c4
   try clear c5
   try clear p5
   try clear q5
   try clear hx5
   try clear c6
   try clear c8
   try clear hx514_0
   try clear hx514_1
   try clear hx516_0
   try clear hx516_1
   try clear p514
   try clear p516
   try clear q514
   try clear q516
   obtain ⟨kq, x41_2, rfl, HA, HJ2, HB⟩ := hcut
   cases kq with
   | zero => exact absurd HA.out (by simp [spec_StoreOk.j1])
   | succ kj2 =>
    have H := HA.out
    clear HA
    simp only [spec_StoreOk.j1] at H
    by_cases c12 : x41_2 = true
    · subst c12
      have H1 : (some false) = some r := by rw [if_pos rfl] at H; exact H
      clear H
      have H := H1
      clear H1
      obtain rfl := Option.some.inj H
      go_wp2
      go_ret
      exact ⟨zv, (zb HB)⟩
    replace c12 := Bool.eq_false_iff.mpr c12
    subst c12
    have H1 : (spec_StoreOk.l1 kj2 l0 x3_1 0) = some r := by rw [if_neg (show ¬ (false = true) by decide)] at H; exact H
    clear H
    have H := H1
    clear H1
    have H' := am H
    clear H
    go_wp2
    go_loopg [4] kj2 (fun kq v4 w' => ∃ (x4_3 : Int), v4 = .int .i64 x4_3 ∧ Aside0 (spec_StoreOk.l1 kq l0 x3_1 x4_3 = some r) ∧ Aside0 (kq ≤ kj2) ∧ Aside0 (Below w.heap.size w w'))
    case atStart => exact ⟨(0), ze, H', ⟨Nat.le_refl _⟩, ⟨zb HB⟩⟩
    case round =>
     clear H'
     try clear c1
     try clear p2
     try clear c4
     try clear c5
     try clear p5
     try clear q5
     try clear hx5
     try clear c6
     try clear c8
     try clear c12
     try clear hx514_0
     try clear hx514_1
     try clear hx516_0
     try clear hx516_1
     try clear p2
     try clear p5
     try clear p514
     try clear p516
     try clear q5
     try clear q514
     try clear q516
     obtain ⟨x4_3, rfl, HA, HK3, HB⟩ := hrel
     cases gk with
     | zero => exact absurd HA.out (by simp [spec_StoreOk.l1])
     | succ k3 =>
      have H := HA.out
      clear HA
      simp only [spec_StoreOk.l1] at H
      by_cases c13 : x4_3 < x3_1
      rotate_left
      · rw [if_neg c13] at H
        have c13b0 : decide (x4_3 < x3_1) = false := decide_eq_false c13
        clear c13
        have H' := am H
        clear H
        go_wp2
        go_roundg k3
        case measure => have := HK1.out; have := HJ2.out; have := HK3.out; omega
        case rel => exact ⟨(wrap64 (x3_1 + 1)), ze, H', ⟨by have := HK1.out; have := HJ2.out; have := HK3.out; omega⟩, ⟨zb HB⟩⟩
      rw [if_pos c13] at H
      have c13b0 : decide (x4_3 < x3_1) = true := decide_eq_true c13
      clear c13
      by_cases c14 : 0 ≤ x3_1
      rotate_left
      · rw [if_neg c14] at H
        exact absurd H (by simp)
      rw [if_pos c14] at H
      have c14b0 : decide (0 ≤ x3_1) = true := decide_eq_true c14
      clear c14
      by_cases c15 : x3_1 < (l0.length : Int)
      rotate_left
      · rw [if_neg c15] at H
        exact absurd H (by simp)
      rw [if_pos c15] at H
      have c15b0 : decide (x3_1 < (l0.length : Int)) = true := decide_eq_true c15
      clear c15
      by_cases c16 : ((rd_T55 l0 x3_1).f0).toList = ([] : List UInt8)
      · rw [if_pos c16] at H
        have c16b0 : (((rd_T55 l0 x3_1).f0).toList == ([] : List UInt8)) = true := beq_iff_eq.mpr c16
        have c16b1 : (((rd_T55 l0 x3_1).f0).toList != ([] : List UInt8)) = false := bne_eq_false_iff_eq.mpr c16
        clear c16
        have H' := am H
        clear H
        try go_wp2
        replace HB := am (below_drew1 HB.out)
        have p520 : 0 ≤ (x3_1 : Int) := of_decide_eq_true zl
        have q520 : x3_1 < (l0.length : Int) := of_decide_eq_true zl
        obtain ⟨ad520, e520, hx520_0, hx520_1⟩ := at_T55 HR0.out x3_1 p520 q520
        have hw520_1 := hx520_1
        have hw520_0 := hx520_0
        cases e520
        replace hx520_0 := hcx HB hx520_0
        replace hx520_1 := hcx HB hx520_1
        replace p520 := eq_true p520
        replace q520 := eq_true q520
        refine start_ (n := 19) (S := fun w' => w'.cell? (ad520.add ((x3_1).toNat * 2)) = some (.string ((rd_T55 l0 x3_1).f0)) ∧ w'.cell? ⟨(ad520.add ((x3_1).toNat * 2)).block, (ad520.add ((x3_1).toNat * 2)).off + 1, none⟩ = some (.int .i64 ((rd_T55 l0 x3_1).f1))) (ds := []) (bs 19 0) (by kernel_rfl) rfl rfl ⟨(hcx HB hw520_0), (hcx HB hw520_1)⟩ (fun hHeld => ?_); refine with_tabW spec_StoreOk.tab9 spec_StoreOk.bits9 (fun HT_ HW_ => ?_)
        generalize wr.drew = w17 at HB hx520_0 hx520_1 hHeld ⊢
        refine pu 0 47 19 1 rfl rfl ?_
        refine pu 1 48 19 3 rfl rfl ?_
        refine pu 2 49 19 7 rfl rfl ?_
        refine pu 3 50 19 15 rfl rfl ?_
        refine ta2 4 51 19 31 rfl rfl hHeld ?_
        refine pu 5 52 19 63 rfl rfl ?_
        refine pu 6 53 19 127 rfl rfl ?_
        refine po 7 54 19 255 rfl rfl ?_
        refine po 8 55 19 511 rfl rfl ?_
        refine po 9 56 19 1023 rfl rfl ?_
        refine po 10 57 19 2047 rfl rfl ?_
        refine po 11 58 19 4095 rfl rfl ?_
        refine po 12 59 19 8191 rfl rfl ?_
        refine po 13 60 19 16383 rfl rfl ?_
        refine po 14 61 19 32767 rfl rfl ?_
        refine po 15 62 19 65535 rfl rfl ?_
        refine po 16 63 19 131071 rfl rfl ?_
        refine po 17 64 19 262143 rfl rfl ?_
        refine pu 18 65 19 524287 rfl rfl ?_
        refine done_ (done_of HT_.out (by kernel_rfl)) ?_
        try go_wp2
        go_roundg k3
        case measure => have := HK1.out; have := HJ2.out; have := HK3.out; omega
        case rel => exact ⟨(wrap64 (x4_3 + 1)), ze, H', ⟨by have := HK1.out; have := HJ2.out; have := HK3.out; omega⟩, ⟨zb HB⟩⟩
      rw [if_neg c16] at H
      have c16b0 : (((rd_T55 l0 x3_1).f0).toList == ([] : List UInt8)) = false := beq_eq_false_iff_ne.mpr c16
      have c16b1 : (((rd_T55 l0 x3_1).f0).toList != ([] : List UInt8)) = true := bne_iff_ne.mpr c16
      by_cases c18 : 0 ≤ x4_3
      rotate_left
      · rw [if_neg c18] at H
        exact absurd H (by simp)
      rw [if_pos c18] at H
      have c18b0 : decide (0 ≤ x4_3) = true := decide_eq_true c18
      clear c18
      by_cases c19 : x4_3 < (l0.length : Int)
      rotate_left
      · rw [if_neg c19] at H
        exact absurd H (by simp)
      rw [if_pos c19] at H
      have c19b0 : decide (x4_3 < (l0.length : Int)) = true := decide_eq_true c19
      clear c19
      by_cases c20 : ((rd_T55 l0 x3_1).f0).toList = ((rd_T55 l0 x4_3).f0).toList
      · rw [if_pos c20] at H
        have c20b0 : (((rd_T55 l0 x3_1).f0).toList == ((rd_T55 l0 x4_3).f0).toList) = true := beq_iff_eq.mpr c20
        have c20b1 : (((rd_T55 l0 x3_1).f0).toList != ((rd_T55 l0 x4_3).f0).toList) = false := bne_eq_false_iff_eq.mpr c20
        clear c20
        obtain rfl := Option.some.inj H
        try go_wp2
        replace HB := am (below_drew1 HB.out)
        have p520 : 0 ≤ (x3_1 : Int) := of_decide_eq_true zl
        have q520 : x3_1 < (l0.length : Int) := of_decide_eq_true zl
        obtain ⟨ad520, e520, hx520_0, hx520_1⟩ := at_T55 HR0.out x3_1 p520 q520
        have hw520_1 := hx520_1
        have hw520_0 := hx520_0
        cases e520
        replace hx520_0 := hcx HB hx520_0
        replace hx520_1 := hcx HB hx520_1
        replace p520 := eq_true p520
        replace q520 := eq_true q520
        have p521 : 0 ≤ (x3_1 : Int) := of_decide_eq_true zl
        have q521 : x3_1 < (l0.length : Int) := of_decide_eq_true zl
        obtain ⟨ad521, e521, hx521_0, hx521_1⟩ := at_T55 HR0.out x3_1 p521 q521
        have hw521_1 := hx521_1
        have hw521_0 := hx521_0
        obtain rfl : ad520 = ad521 := (by injection e521)
        replace hx521_0 := hcx HB hx521_0
        replace hx521_1 := hcx HB hx521_1
        replace p521 := eq_true p521
        replace q521 := eq_true q521
        have p522 : 0 ≤ (x4_3 : Int) := of_decide_eq_true zl
        have q522 : x4_3 < (l0.length : Int) := of_decide_eq_true zl
        obtain ⟨ad522, e522, hx522_0, hx522_1⟩ := at_T55 HR0.out x4_3 p522 q522
        have hw522_1 := hx522_1
        have hw522_0 := hx522_0
        obtain rfl : ad520 = ad522 := (by injection e522)
        replace hx522_0 := hcx HB hx522_0
        replace hx522_1 := hcx HB hx522_1
        replace p522 := eq_true p522
        replace q522 := eq_true q522
        refine start_ (n := 19) (S := fun w' => w'.cell? (ad520.add ((x3_1).toNat * 2)) = some (.string ((rd_T55 l0 x3_1).f0)) ∧ w'.cell? ⟨(ad520.add ((x3_1).toNat * 2)).block, (ad520.add ((x3_1).toNat * 2)).off + 1, none⟩ = some (.int .i64 ((rd_T55 l0 x3_1).f1)) ∧ w'.cell? (ad520.add ((x3_1).toNat * 2)) = some (.string ((rd_T55 l0 x3_1).f0)) ∧ w'.cell? ⟨(ad520.add ((x3_1).toNat * 2)).block, (ad520.add ((x3_1).toNat * 2)).off + 1, none⟩ = some (.int .i64 ((rd_T55 l0 x3_1).f1)) ∧ w'.cell? (ad520.add ((x4_3).toNat * 2)) = some (.string ((rd_T55 l0 x4_3).f0)) ∧ w'.cell? ⟨(ad520.add ((x4_3).toNat * 2)).block, (ad520.add ((x4_3).toNat * 2)).off + 1, none⟩ = some (.int .i64 ((rd_T55 l0 x4_3).f1))) (ds := []) (bs 19 0) (by kernel_rfl) rfl rfl ⟨(hcx HB hw520_0), (hcx HB hw520_1), (hcx HB hw521_0), (hcx HB hw521_1), (hcx HB hw522_0), (hcx HB hw522_1)⟩ (fun hHeld => ?_); refine with_tabW spec_StoreOk.tab9 spec_StoreOk.bits9 (fun HT_ HW_ => ?_)
        generalize wr.drew = w21 at HB hx520_0 hx520_1 hx521_0 hx521_1 hx522_0 hx522_1 hHeld ⊢
        refine pu 0 47 19 1 rfl rfl ?_
        refine pu 1 48 19 3 rfl rfl ?_
        refine pu 2 49 19 7 rfl rfl ?_
        refine pu 3 50 19 15 rfl rfl ?_
        refine ta6 4 51 19 31 rfl rfl hHeld ?_
        refine pu 5 52 19 63 rfl rfl ?_
        refine pu 6 53 19 127 rfl rfl ?_
        refine pu 7 54 19 255 rfl rfl ?_
        refine pu 8 55 19 511 rfl rfl ?_
        refine pu 9 56 19 1023 rfl rfl ?_
        refine pu 10 57 19 2047 rfl rfl ?_
        refine pu 12 59 19 6143 rfl rfl ?_
        refine pu 13 60 19 14335 rfl rfl ?_
        refine pu 14 61 19 30719 rfl rfl ?_
        refine pu 15 62 19 63487 rfl rfl ?_
        refine ta6 11 58 19 65535 rfl rfl hHeld ?_
        refine ta6 16 63 19 131071 rfl rfl hHeld ?_
        refine pu 17 64 19 262143 rfl rfl ?_
        refine pu 18 65 19 524287 rfl rfl ?_
        refine done_ (done_of HT_.out (by kernel_rfl)) ?_
        try go_wp2
        go_ret
        exact ⟨zv, (zb HB)⟩
      rw [if_neg c20] at H
      have c20b0 : (((rd_T55 l0 x3_1).f0).toList == ((rd_T55 l0 x4_3).f0).toList) = false := beq_eq_false_iff_ne.mpr c20
      have c20b1 : (((rd_T55 l0 x3_1).f0).toList != ((rd_T55 l0 x4_3).f0).toList) = true := bne_iff_ne.mpr c20
      have H' := am H
      clear H
      try go_wp2
      replace HB := am (below_drew1 HB.out)
      have p520 : 0 ≤ (x3_1 : Int) := of_decide_eq_true zl
      have q520 : x3_1 < (l0.length : Int) := of_decide_eq_true zl
      obtain ⟨ad520, e520, hx520_0, hx520_1⟩ := at_T55 HR0.out x3_1 p520 q520
      have hw520_1 := hx520_1
      have hw520_0 := hx520_0
      cases e520
      replace hx520_0 := hcx HB hx520_0
      replace hx520_1 := hcx HB hx520_1
      replace p520 := eq_true p520
      replace q520 := eq_true q520
      have p521 : 0 ≤ (x3_1 : Int) := of_decide_eq_true zl
      have q521 : x3_1 < (l0.length : Int) := of_decide_eq_true zl
      obtain ⟨ad521, e521, hx521_0, hx521_1⟩ := at_T55 HR0.out x3_1 p521 q521
      have hw521_1 := hx521_1
      have hw521_0 := hx521_0
      obtain rfl : ad520 = ad521 := (by injection e521)
      replace hx521_0 := hcx HB hx521_0
      replace hx521_1 := hcx HB hx521_1
      replace p521 := eq_true p521
      replace q521 := eq_true q521
      have p522 : 0 ≤ (x4_3 : Int) := of_decide_eq_true zl
      have q522 : x4_3 < (l0.length : Int) := of_decide_eq_true zl
      obtain ⟨ad522, e522, hx522_0, hx522_1⟩ := at_T55 HR0.out x4_3 p522 q522
      have hw522_1 := hx522_1
      have hw522_0 := hx522_0
      obtain rfl : ad520 = ad522 := (by injection e522)
      replace hx522_0 := hcx HB hx522_0
      replace hx522_1 := hcx HB hx522_1
      replace p522 := eq_true p522
      replace q522 := eq_true q522
      refine start_ (n := 19) (S := fun w' => w'.cell? (ad520.add ((x3_1).toNat * 2)) = some (.string ((rd_T55 l0 x3_1).f0)) ∧ w'.cell? ⟨(ad520.add ((x3_1).toNat * 2)).block, (ad520.add ((x3_1).toNat * 2)).off + 1, none⟩ = some (.int .i64 ((rd_T55 l0 x3_1).f1)) ∧ w'.cell? (ad520.add ((x3_1).toNat * 2)) = some (.string ((rd_T55 l0 x3_1).f0)) ∧ w'.cell? ⟨(ad520.add ((x3_1).toNat * 2)).block, (ad520.add ((x3_1).toNat * 2)).off + 1, none⟩ = some (.int .i64 ((rd_T55 l0 x3_1).f1)) ∧ w'.cell? (ad520.add ((x4_3).toNat * 2)) = some (.string ((rd_T55 l0 x4_3).f0)) ∧ w'.cell? ⟨(ad520.add ((x4_3).toNat * 2)).block, (ad520.add ((x4_3).toNat * 2)).off + 1, none⟩ = some (.int .i64 ((rd_T55 l0 x4_3).f1))) (ds := []) (bs 19 0) (by kernel_rfl) rfl rfl ⟨(hcx HB hw520_0), (hcx HB hw520_1), (hcx HB hw521_0), (hcx HB hw521_1), (hcx HB hw522_0), (hcx HB hw522_1)⟩ (fun hHeld => ?_); refine with_tabW spec_StoreOk.tab9 spec_StoreOk.bits9 (fun HT_ HW_ => ?_)
      generalize wr.drew = w22 at HB hx520_0 hx520_1 hx521_0 hx521_1 hx522_0 hx522_1 hHeld ⊢
      refine pu 0 47 19 1 rfl rfl ?_
      refine pu 1 48 19 3 rfl rfl ?_
      refine pu 2 49 19 7 rfl rfl ?_
      refine pu 3 50 19 15 rfl rfl ?_
      refine ta6 4 51 19 31 rfl rfl hHeld ?_
      refine pu 5 52 19 63 rfl rfl ?_
      refine pu 6 53 19 127 rfl rfl ?_
      refine pu 7 54 19 255 rfl rfl ?_
      refine pu 8 55 19 511 rfl rfl ?_
      refine pu 9 56 19 1023 rfl rfl ?_
      refine pu 10 57 19 2047 rfl rfl ?_
      refine pu 12 59 19 6143 rfl rfl ?_
      refine pu 13 60 19 14335 rfl rfl ?_
      refine pu 14 61 19 30719 rfl rfl ?_
      refine pu 15 62 19 63487 rfl rfl ?_
      refine ta6 11 58 19 65535 rfl rfl hHeld ?_
      refine ta6 16 63 19 131071 rfl rfl hHeld ?_
      refine pu 17 64 19 262143 rfl rfl ?_
      refine pu 18 65 19 524287 rfl rfl ?_
      refine done_ (done_of HT_.out (by kernel_rfl)) ?_
      try go_wp2
      go_roundg k3
      case measure => have := HK1.out; have := HJ2.out; have := HK3.out; omega
      case rel => exact ⟨(wrap64 (x4_3 + 1)), ze, H', ⟨by have := HK1.out; have := HJ2.out; have := HK3.out; omega⟩, ⟨zb HB⟩⟩
end Go.Proofs.Ytooamacekmjpaaa.PFnVolText
