/- The walk: each function that the law comes to as a plain Lean function, and a proof that the Go code answers so. Written by this session's program over the kit's printer. -/
import Derived.Test.YtooamacekmjpaaaZ
import Derived.Test.YtooamacekmjpaaaQFnPoolOnce0
import Derived.Test.YtooamacekmjpaaaQFnPoolOnce1
import Derived.Test.YtooamacekmjpaaaQFnPoolOnce2
import Derived.Test.YtooamacekmjpaaaQFnPoolOnce3
namespace Go.Proofs.Ytooamacekmjpaaa.PFnPoolOnce
open Go.RowKit Go.Proofs.YtooamacekmjpaaaW.PrintWords Go.Proofs.YtooamacekmjpaaaW.PrintLast Go.Proofs.YtooamacekmjpaaaW.PrintMore
attribute [local go_sem] max2_int min2_int max_two min_two max_three min_three max_four min_four   -- for this text's walks alone
set_option linter.unusedVariables false
set_option linter.unusedSimpArgs false
/-! ### spec_PoolOk: function 15 -/
mutual
def spec_PoolOk.j0 : Nat → Bool → List (S55) → List (S38) → Option (Bool)
 | 0, _, _, _ => none
 | k + 1, x14, x123000, x123001 => if x14 = true then (some false) else (spec_PoolOk.l0 k 0 x123000 x123001)
def spec_PoolOk.l0 : Nat → Int → List (S55) → List (S38) → Option (Bool)
 | 0, _, _, _ => none
 | k + 1, x3, x123000, x123001 => if x3 < (x123001.length : Int) then (if 0 ≤ x3 then ((spec_VolOk.f k ((rd_T38 x123001 x3).f0) ((rd_T38 x123001 x3).f1)).bind fun t125 => (if t125 = true then (if x3 > 0 then (if 0 ≤ (wrap64 (x3 - 1)) then (if (wrap64 (x3 - 1)) < (x123001.length : Int) then (if ((Op.bytesLess (((rd_T38 x123001 (wrap64 (x3 - 1))).f0).toList) (((rd_T38 x123001 x3).f0).toList)) = true) then (spec_PoolOk.l0 k (wrap64 (x3 + 1)) x123000 x123001) else (some false)) else (none)) else (none)) else (spec_PoolOk.l0 k (wrap64 (x3 + 1)) x123000 x123001)) else (some false))) else (none)) else (spec_PoolOk.l1 k 1 x123000 x123001)
def spec_PoolOk.l1 : Nat → Int → List (S55) → List (S38) → Option (Bool)
 | 0, _, _, _ => none
 | k + 1, x4, x123000, x123001 => if x4 ≤ 8 then (if 0 ≤ (wrap64 (x4 - 1)) then (if (wrap64 (x4 - 1)) < (x123000.length : Int) then ((spec_l11Uses.f k x123000 x123001 x4).bind fun t129 => (if ((rd_T55 x123000 (wrap64 (x4 - 1))).f1) = t129 then (spec_PoolOk.l1 k (wrap64 (x4 + 1)) x123000 x123001) else (some false))) else (none)) else (none)) else (some true)
end
def spec_PoolOk.f (k : Nat) (l0_0 : List (S55)) (l0_1 : List (S38)) : Option (Bool) := (spec_StoreOk.f k l0_0).bind fun t123 => (if t123 = true then (spec_PoolOk.j0 k (decide ((l0_1.length : Int) > 4)) l0_0 l0_1) else (spec_PoolOk.j0 k true l0_0 l0_1))
theorem spec_PoolOk.mono_l : ∀ k, (∀ y0 y1 y2, LeO (spec_PoolOk.j0 k y0 y1 y2) (spec_PoolOk.j0 (k + 1) y0 y1 y2)) ∧ (∀ y0 y1 y2, LeO (spec_PoolOk.l0 k y0 y1 y2) (spec_PoolOk.l0 (k + 1) y0 y1 y2)) ∧ (∀ y0 y1 y2, LeO (spec_PoolOk.l1 k y0 y1 y2) (spec_PoolOk.l1 (k + 1) y0 y1 y2))
 | 0 => ⟨fun _ _ _ r h => by simp [spec_PoolOk.j0] at h, fun _ _ _ r h => by simp [spec_PoolOk.l0] at h, fun _ _ _ r h => by simp [spec_PoolOk.l1] at h⟩
 | k + 1 => by
  obtain ⟨ih0, ih1, ih2⟩ := spec_PoolOk.mono_l k
  refine ⟨?_, ?_, ?_⟩
  · intro y0 y1 y2
    unfold spec_PoolOk.j0
    repeat' first
    | (with_reducible exact ih0 _ _ _)
    | (with_reducible exact ih1 _ _ _)
    | (with_reducible exact ih2 _ _ _)
    | (with_reducible exact spec_StoreOk.mono _ _)
    | (with_reducible exact spec_VolOk.mono _ _ _)
    | (with_reducible exact spec_l11Uses.mono _ _ _ _)
    | (with_reducible exact LeO.refl _)
    | (with_reducible exact LeO.none _)
    | (with_reducible refine LeO.ite ?_ ?_)
    | (with_reducible refine LeO.bind ?_ (fun _ => ?_))
    | exact ih0 _ _ _
    | exact ih1 _ _ _
    | exact ih2 _ _ _
    | exact spec_StoreOk.mono _ _
    | exact spec_VolOk.mono _ _ _
    | exact spec_l11Uses.mono _ _ _ _
    | exact LeO.none _
    | refine LeO.ite ?_ ?_
    | refine LeO.bind ?_ (fun _ => ?_)
  · intro y0 y1 y2
    unfold spec_PoolOk.l0
    repeat' first
    | (with_reducible exact ih0 _ _ _)
    | (with_reducible exact ih1 _ _ _)
    | (with_reducible exact ih2 _ _ _)
    | (with_reducible exact spec_StoreOk.mono _ _)
    | (with_reducible exact spec_VolOk.mono _ _ _)
    | (with_reducible exact spec_l11Uses.mono _ _ _ _)
    | (with_reducible exact LeO.refl _)
    | (with_reducible exact LeO.none _)
    | (with_reducible refine LeO.ite ?_ ?_)
    | (with_reducible refine LeO.bind ?_ (fun _ => ?_))
    | exact ih0 _ _ _
    | exact ih1 _ _ _
    | exact ih2 _ _ _
    | exact spec_StoreOk.mono _ _
    | exact spec_VolOk.mono _ _ _
    | exact spec_l11Uses.mono _ _ _ _
    | exact LeO.none _
    | refine LeO.ite ?_ ?_
    | refine LeO.bind ?_ (fun _ => ?_)
  intro y0 y1 y2
  unfold spec_PoolOk.l1
  repeat' first
  | (with_reducible exact ih0 _ _ _)
  | (with_reducible exact ih1 _ _ _)
  | (with_reducible exact ih2 _ _ _)
  | (with_reducible exact spec_StoreOk.mono _ _)
  | (with_reducible exact spec_VolOk.mono _ _ _)
  | (with_reducible exact spec_l11Uses.mono _ _ _ _)
  | (with_reducible exact LeO.refl _)
  | (with_reducible exact LeO.none _)
  | (with_reducible refine LeO.ite ?_ ?_)
  | (with_reducible refine LeO.bind ?_ (fun _ => ?_))
  | exact ih0 _ _ _
  | exact ih1 _ _ _
  | exact ih2 _ _ _
  | exact spec_StoreOk.mono _ _
  | exact spec_VolOk.mono _ _ _
  | exact spec_l11Uses.mono _ _ _ _
  | exact LeO.none _
  | refine LeO.ite ?_ ?_
  | refine LeO.bind ?_ (fun _ => ?_)
theorem spec_PoolOk.mono : ∀ a0 a1 k, LeO (spec_PoolOk.f k a0 a1) (spec_PoolOk.f (k + 1) a0 a1) := by
 intro a0 a1 k
 obtain ⟨ih0, ih1, ih2⟩ := spec_PoolOk.mono_l k
 unfold spec_PoolOk.f
 repeat' first
  | (with_reducible exact ih0 _ _ _)
  | (with_reducible exact ih1 _ _ _)
  | (with_reducible exact ih2 _ _ _)
  | (with_reducible exact spec_StoreOk.mono _ _)
  | (with_reducible exact spec_VolOk.mono _ _ _)
  | (with_reducible exact spec_l11Uses.mono _ _ _ _)
  | (with_reducible exact LeO.refl _)
  | (with_reducible exact LeO.none _)
  | (with_reducible refine LeO.ite ?_ ?_)
  | (with_reducible refine LeO.bind ?_ (fun _ => ?_))
  | exact ih0 _ _ _
  | exact ih1 _ _ _
  | exact ih2 _ _ _
  | exact spec_StoreOk.mono _ _
  | exact spec_VolOk.mono _ _ _
  | exact spec_l11Uses.mono _ _ _ _
  | exact LeO.none _
  | refine LeO.ite ?_ ?_
  | refine LeO.bind ?_ (fun _ => ?_)
def spec_PoolOk.T6 : Bool × List (List Nat × List Nat) := (true, [([], []), ([0], [0]), ([], []), ([1, 2], [1, 2]), ([3], [3]), ([4], [4]), ([5], [5]), ([6, 5], [6]), ([7], [7]), ([8, 7], [7, 8]), ([9, 7, 7], [7, 9]), ([10], [10]), ([11, 10], [10, 11]), ([10], [10]), ([13, 10], [10, 13]), ([12, 14, 10], [10, 12, 14]), ([15, 10], [10, 15]), ([16, 10], [10, 16]), ([10], [10]), ([18, 10], [10, 18]), ([10], [10]), ([19, 20, 10], [10, 19, 20]), ([21, 10], [10, 21]), ([22, 10], [10, 22]), ([17, 23, 10], [10, 17, 23]), ([10, 24, 7], [7, 10, 24]), ([7, 25], [7, 25])])
def spec_PoolOk.B6 : List Nat := [0, 1, 0, 7, 15, 31, 63, 127, 255, 511, 1023, 2047, 4095, 2047, 10239, 32767, 65535, 131071, 2047, 264191, 2047, 1837055, 3934207, 8128511, 16777215, 33554431, 67108863]
theorem spec_PoolOk.tab6 : rtab .any (opsOf Try.f15 6) = spec_PoolOk.T6 := by kernel_rfl
theorem spec_PoolOk.bits6 : waitsOk spec_PoolOk.T6.2 spec_PoolOk.B6 = true := by kernel_rfl
def spec_PoolOk.T11 : Bool × List (List Nat × List Nat) := (true, [([], []), ([0], [0]), ([], []), ([2], [2]), ([1, 3], [1, 3]), ([4], [4]), ([5], [5]), ([], []), ([], []), ([7, 8], [7, 8]), ([6, 9], [6, 9])])
def spec_PoolOk.B11 : List Nat := [0, 1, 0, 4, 15, 31, 63, 0, 0, 384, 1023]
theorem spec_PoolOk.tab11 : rtab .any (opsOf Try.f15 11) = spec_PoolOk.T11 := by kernel_rfl
theorem spec_PoolOk.bits11 : waitsOk spec_PoolOk.T11.2 spec_PoolOk.B11 = true := by kernel_rfl
set_option maxHeartbeats 8000000 in
set_option maxRecDepth 100000 in
theorem spec_PoolOk.calls (k : Nat) (A0_0 : Option Addr) (c0_0 : Nat) (l0_0 : List (S55)) (A0_1 : Option Addr) (c0_1 : Nat) (l0_1 : List (S38)) (r : Bool) (w : World) (hr0_0 : Kd.C k55 w A0_0 l0_0.length l0_0) (hc0_0 : l0_0.length ≤ c0_0) (hr0_1 : Kd.C k38 w A0_1 l0_1.length l0_1) (hc0_1 : l0_1.length ≤ c0_1) (h : spec_PoolOk.f k l0_0 l0_1 = some r) :
 Calls Try.prog 15 #[.agg #[.slice A0_0 l0_0.length c0_0, .slice A0_1 l0_1.length c0_1]] w fun e w' => e = .returned (.bool r) ∧ Below w.heap.size w w' := by
 have hu31 := Try.underlying31
 have hu38 := Try.underlying38
 have HR0_0 := am hr0_0
 have HC0_0 := am hc0_0
 clear hr0_0 hc0_0
 have HR0_1 := am hr0_1
 have HC0_1 := am hc0_1
 clear hr0_1 hc0_1
 have HB := am (Below.refl w.heap.size w)
 have H : ((spec_StoreOk.f k l0_0).bind fun t123 => (if t123 = true then (spec_PoolOk.j0 k (decide ((l0_1.length : Int) > 4)) l0_0 l0_1) else (spec_PoolOk.j0 k true l0_0 l0_1))) = some r := h
 clear h
 have HC2 := am H
 clear H
 go_enter Try.func15, Try.ntmps15
 go_upto_region 1 with (first | ((with_reducible refine gate_dst (N := 1) rfl ?_); (try (refine gate_guard (by rfl) ?_; dsimp only)); refine bx 31 #[.slice A0_0 l0_0.length c0_0, .slice A0_1 l0_1.length c0_1] ?_; intro gb122 hg w3 hbox hb; have BK122 := am (hbox); have GW122 := am (zn hg (zb HB)); have GE122 := am (zn hg (zb HB)); replace HB := am (below_step (zb HB) hb); clear hb hbox hg))
 (try simp only [Act.put, List.setIfInBounds_toArray, List.set_cons_zero, List.set_cons_succ])
 go_cut [14] (fun v14 wc => ∃ (kq : Nat) (x14_1 : Bool), v14 = .bool x14_1 ∧ Aside0 (spec_PoolOk.j0 kq x14_1 l0_0 l0_1 = some r) ∧ Aside0 (kq ≤ k) ∧ Aside0 (wc.heap[gb122]? = some (.cells #[(.slice A0_0 l0_0.length c0_0), (.slice A0_1 l0_1.length c0_1)] 31 (0, 0))) ∧ Aside0 (Below w.heap.size w wc))
 case first =>
  have H := HC2.out
  clear HC2
  replace H := obs H
  obtain ⟨t123, A40, H⟩ := H
  replace H : (if t123 = true then (spec_PoolOk.j0 k (decide ((l0_1.length : Int) > 4)) l0_0 l0_1) else (spec_PoolOk.j0 k true l0_0 l0_1)) = some r := H
  have A4 := am A40
  clear A40
  by_cases c5 : t123 = true
  · subst c5
    have H1 : (spec_PoolOk.j0 k (decide ((l0_1.length : Int) > 4)) l0_0 l0_1) = some r := by rw [if_pos rfl] at H; exact H
    clear H
    have H := H1
    clear H1
    have H' := am H
    clear H
    have hcz6_0 := ce0 BK122
    have hcz6_1 := ce1 BK122
    have hfz6_0 := bfz BK122 0
    have hfz6_1 := bfz BK122 1
    go_wp2_with (first | ((with_reducible refine gate_callee (f := 41) rfl ?_); refine gl Try.func41 7 #[.slice A0_0 l0_0.length c0_0] rfl rfl rfl ?_; (with_reducible refine (spec_StoreOk.calls k _ _ l0_0 true _ ?side1 ?side2 A4.out).mono ?_); (case side1 => exact zc (Kd.C_below HR0_0.out HB.out)); (case side2 => exact HC0_0.out); rintro e w7 ⟨rfl, hb⟩; refine ⟨_, rfl, ?_⟩; replace BK122 := am (blk_below (zk BK122) hb); replace HB := am (below_step (zb HB) hb); (try clear hb); (try clear hb2); (try clear hk); (try clear hi); have hcz8_0 := ce0 BK122; have hcz8_1 := ce1 BK122; have hfz8_0 := bfz BK122 0; have hfz8_1 := bfz BK122 1))
    go_meet
    case rel => exact ⟨_, (decide ((l0_1.length : Int) > 4)), ze, H', ⟨by first | omega | exact Nat.le_refl _⟩, ⟨zk BK122⟩, ⟨zb HB⟩⟩
  replace c5 := Bool.eq_false_iff.mpr c5
  subst c5
  have H1 : (spec_PoolOk.j0 k true l0_0 l0_1) = some r := by rw [if_neg (show ¬ (false = true) by decide)] at H; exact H
  clear H
  have H := H1
  clear H1
  have H' := am H
  clear H
  have hcz9_0 := ce0 BK122
  have hcz9_1 := ce1 BK122
  have hfz9_0 := bfz BK122 0
  have hfz9_1 := bfz BK122 1
  go_wp2_with (first | ((with_reducible refine gate_callee (f := 41) rfl ?_); refine gl Try.func41 7 #[.slice A0_0 l0_0.length c0_0] rfl rfl rfl ?_; (with_reducible refine (spec_StoreOk.calls k _ _ l0_0 false _ ?side1 ?side2 A4.out).mono ?_); (case side1 => exact zc (Kd.C_below HR0_0.out HB.out)); (case side2 => exact HC0_0.out); rintro e w10 ⟨rfl, hb⟩; refine ⟨_, rfl, ?_⟩; replace BK122 := am (blk_below (zk BK122) hb); replace HB := am (below_step (zb HB) hb); (try clear hb); (try clear hb2); (try clear hk); (try clear hi)))
  go_meet
  case rel => exact ⟨_, (true), ze, H', ⟨by first | omega | exact Nat.le_refl _⟩, ⟨zk BK122⟩, ⟨zb HB⟩⟩
 clear HC2
 try clear c1
 try clear p2
 try clear c4
 try clear c5
 try clear hcz6_0
 try clear hcz6_1
 try clear hcz8_0
 try clear hcz8_1
 try clear hcz9_0
 try clear hcz9_1
 try clear hfz6_0
 try clear hfz6_1
 try clear hfz8_0
 try clear hfz8_1
 try clear hfz9_0
 try clear hfz9_1
 obtain ⟨kq, x14_1, rfl, HA, HJ1, BK122, HB⟩ := hcut
 cases kq with
 | zero => exact absurd HA.out (by simp [spec_PoolOk.j0])
 | succ kj1 =>
  have H := HA.out
  clear HA
  simp only [spec_PoolOk.j0] at H
  by_cases c11 : x14_1 = true
  · subst c11
    have H1 : (some false) = some r := by rw [if_pos rfl] at H; exact H
    clear H
    have H := H1
    clear H1
    obtain rfl := Option.some.inj H
    go_wp2
    go_ret
    exact ⟨zv, (zb HB)⟩
  replace c11 := Bool.eq_false_iff.mpr c11
  subst c11
  have H1 : (spec_PoolOk.l0 kj1 0 l0_0 l0_1) = some r := by rw [if_neg (show ¬ (false = true) by decide)] at H; exact H
  clear H
  have H := H1
  clear H1
  have H' := am H
  clear H
  go_wp2
  go_loopg [3] kj1 (fun kq v3 w' => ∃ (x3_2 : Int), v3 = .int .i64 x3_2 ∧ Aside0 (spec_PoolOk.l0 kq x3_2 l0_0 l0_1 = some r) ∧ Aside0 (kq ≤ kj1) ∧ Aside0 (w'.heap[gb122]? = some (.cells #[(.slice A0_0 l0_0.length c0_0), (.slice A0_1 l0_1.length c0_1)] 31 (0, 0))) ∧ Aside0 (Below w.heap.size w w'))
  case atStart => exact ⟨(0), ze, H', ⟨Nat.le_refl _⟩, ⟨zk BK122⟩, ⟨zb HB⟩⟩
  case round =>
   clear H'
   try clear c1
   try clear p2
   try clear c4
   try clear c5
   try clear c11
   try clear hcz6_0
   try clear hcz6_1
   try clear hcz8_0
   try clear hcz8_1
   try clear hcz9_0
   try clear hcz9_1
   try clear hfz6_0
   try clear hfz6_1
   try clear hfz8_0
   try clear hfz8_1
   try clear hfz9_0
   try clear hfz9_1
   try clear p2
   obtain ⟨x3_2, rfl, HA, HK2, BK122, HB⟩ := hrel
   cases gk with
   | zero => exact absurd HA.out (by simp [spec_PoolOk.l0])
   | succ k2 =>
    have H := HA.out
    clear HA
    simp only [spec_PoolOk.l0] at H
    by_cases c12 : x3_2 < (l0_1.length : Int)
    rotate_left
    · rw [if_neg c12] at H
      have c12b0 : decide (x3_2 < (l0_1.length : Int)) = false := decide_eq_false c12
      clear c12
      have H' := am H
      clear H
      have hcz33_0 := ce0 BK122
      have hcz33_1 := ce1 BK122
      have hfz33_0 := bfz BK122 0
      have hfz33_1 := bfz BK122 1
      go_wp2
      go_loopg [4] k2 (fun kq v4 w' => ∃ (x4_3 : Int), v4 = .int .i64 x4_3 ∧ Aside0 (spec_PoolOk.l1 kq x4_3 l0_0 l0_1 = some r) ∧ Aside0 (kq ≤ k2) ∧ Aside0 (w'.heap[gb122]? = some (.cells #[(.slice A0_0 l0_0.length c0_0), (.slice A0_1 l0_1.length c0_1)] 31 (0, 0))) ∧ Aside0 (Below w.heap.size w w'))
      case atStart => exact ⟨(1), ze, H', ⟨Nat.le_refl _⟩, ⟨zk BK122⟩, ⟨zb HB⟩⟩
      case round =>
       clear H'
       try clear c1
       try clear p1
       try clear q1
       try clear hx1
       try clear c2
       try clear p2
       try clear p6
       try clear c12
       try clear c12b0
       try clear p12
       try clear q12
       try clear hx12
       try clear c13
       try clear c15
       try clear c16
       try clear c16b0
       try clear c18
       try clear c19
       try clear c21
       try clear hcz27_0
       try clear hcz27_1
       try clear hcz30_0
       try clear hcz30_1
       try clear hcz33_0
       try clear hcz33_1
       try clear hfz27_0
       try clear hfz27_1
       try clear hfz30_0
       try clear hfz30_1
       try clear hfz33_0
       try clear hfz33_1
       try clear hx124_0
       try clear hx124_1
       try clear p124
       try clear q124
       obtain ⟨x4_3, rfl, HA, HK3, BK122, HB⟩ := hrel
       cases gk with
       | zero => exact absurd HA.out (by simp [spec_PoolOk.l1])
       | succ k3 =>
        have H := HA.out
        clear HA
        simp only [spec_PoolOk.l1] at H
        by_cases c34 : x4_3 ≤ 8
        rotate_left
        · rw [if_neg c34] at H
          have c34b0 : decide (x4_3 ≤ 8) = false := decide_eq_false c34
          clear c34
          obtain rfl := Option.some.inj H
          go_wp2
          go_ret
          exact ⟨zv, (zb HB)⟩
        rw [if_pos c34] at H
        have c34b0 : decide (x4_3 ≤ 8) = true := decide_eq_true c34
        clear c34
        obtain ⟨ji35, hji35⟩ : ∃ j_ : Int, (wrap64 (x4_3 - 1)) = j_ := ⟨_, rfl⟩
        replace H : (if 0 ≤ (ji35) then (if (ji35) < (l0_0.length : Int) then ((spec_l11Uses.f k3 l0_0 l0_1 x4_3).bind fun t129 => (if ((rd_T55 l0_0 (ji35)).f1) = t129 then (spec_PoolOk.l1 k3 (wrap64 (x4_3 + 1)) l0_0 l0_1) else (some false))) else (none)) else (none)) = some r := by first | (rw [hji35] at H; exact H) | (simp only [hji35] at H ⊢; exact H)
        have hji35w : (IntKind.i64.wrap (x4_3 - 1)) = ji35 := (i64_w _).trans hji35
        by_cases c36 : 0 ≤ (ji35)
        rotate_left
        · rw [if_neg c36] at H
          exact absurd H (by simp)
        rw [if_pos c36] at H
        have c36b0 : decide (0 ≤ (ji35)) = true := decide_eq_true c36
        clear c36
        by_cases c37 : (ji35) < (l0_0.length : Int)
        rotate_left
        · rw [if_neg c37] at H
          exact absurd H (by simp)
        rw [if_pos c37] at H
        have c37b0 : decide ((ji35) < (l0_0.length : Int)) = true := decide_eq_true c37
        clear c37
        replace H := obs H
        obtain ⟨t129, A380, H⟩ := H
        replace H : (if ((rd_T55 l0_0 (ji35)).f1) = t129 then (spec_PoolOk.l1 k3 (wrap64 (x4_3 + 1)) l0_0 l0_1) else (some false)) = some r := H
        have A38 := am A380
        clear A380
        by_cases c39 : ((rd_T55 l0_0 (ji35)).f1) = t129
        rotate_left
        · rw [if_neg c39] at H
          have c39b0 : (((rd_T55 l0_0 (ji35)).f1) == t129) = false := beq_eq_false_iff_ne.mpr c39
          have c39b1 : (((rd_T55 l0_0 (ji35)).f1) != t129) = true := bne_iff_ne.mpr c39
          obtain rfl := Option.some.inj H
          try go_wp2
          replace BK122 := am (blk_drew BK122.out)
          replace HB := am (below_drew1 HB.out)
          have p128 : 0 ≤ ((ji35) : Int) := of_decide_eq_true zl
          have q128 : (ji35) < (l0_0.length : Int) := of_decide_eq_true zl
          obtain ⟨ad128, e128, hx128_0, hx128_1⟩ := at_T55 HR0_0.out (ji35) p128 q128
          have hw128_1 := hx128_1
          have hw128_0 := hx128_0
          cases e128
          replace hx128_0 := hcx HB hx128_0
          replace hx128_1 := hcx HB hx128_1
          replace p128 := eq_true p128
          replace q128 := eq_true q128
          refine start_ (n := 11) (S := fun w' => w'.cell? ⟨gb122, 0, none⟩ = some (.slice (some ad128) l0_0.length c0_0) ∧ w'.cell? ⟨gb122, 1, none⟩ = some (.slice A0_1 l0_1.length c0_1) ∧ w'.cell? (ad128.add (((ji35)).toNat * 2)) = some (.string ((rd_T55 l0_0 (ji35)).f0)) ∧ w'.cell? ⟨(ad128.add (((ji35)).toNat * 2)).block, (ad128.add (((ji35)).toNat * 2)).off + 1, none⟩ = some (.int .i64 ((rd_T55 l0_0 (ji35)).f1))) (ds := []) (bs 11 0) (by kernel_rfl) rfl rfl ⟨ce0 BK122, ce1 BK122, (hcx HB hw128_0), (hcx HB hw128_1)⟩ (fun hHeld => ?_); refine with_tabW spec_PoolOk.tab11 spec_PoolOk.bits11 (fun HT_ HW_ => ?_)
          generalize wr.drew = w42 at BK122 HB hx128_0 hx128_1 hHeld ⊢
          refine pu 0 53 11 1 rfl rfl ?_
          refine pu 2 55 11 5 rfl rfl ?_
          refine pu 3 56 11 13 rfl rfl ?_
          refine pu 8 61 11 269 rfl rfl ?_
          refine ta4 1 54 11 271 rfl rfl hHeld ?_
          refine pu 4 57 11 287 rfl rfl ?_
          refine pu 5 58 11 319 rfl rfl ?_
          refine ta4 6 59 11 383 rfl rfl hHeld ?_
          refine ta4 7 60 11 511 rfl rfl hHeld ?_
          refine oz 9 11 1023 rfl rfl (fun K hK => ?_)
          refine gs Try.func42 #[.agg #[.slice (some ad128) l0_0.length c0_0, .slice A0_1 l0_1.length c0_1], .int .i64 x4_3] rfl rfl ?_
          with_reducible refine (spec_l11Uses.calls k3 _ _ l0_0 _ _ l0_1 x4_3 t129 _ ?side1 ?side2 ?side3 ?side4 A38.out).mono ?_
          (case side1 => exact zc (Kd.C_below HR0_0.out HB.out))
          (case side2 => exact HC0_0.out)
          (case side3 => exact zc (Kd.C_below HR0_1.out HB.out))
          (case side4 => exact HC0_1.out)
          rintro e w43 ⟨rfl, hb⟩
          refine ⟨_, rfl, ?_⟩
          replace BK122 := am (blk_below (zk BK122) hb)
          replace HB := am (below_step (zb HB) hb)
          (try clear hb)
          (try clear hb2)
          (try clear hk)
          (try clear hi)
          refine hK.out _ _ ⟨ce0 BK122, ce1 BK122, (hcx HB hw128_0), (hcx HB hw128_1)⟩ (fun hHeld => ?_)
          clear hK K
          refine norm_ (a' := ?_) ?_ ?_
          rotate_left
          · show Act.put _ (some 62) _ = _
            simp only [Act.put, List.setIfInBounds_toArray, List.set_cons_zero, List.set_cons_succ, i64_w, i32_w]
            rfl
          refine pu 10 63 11 2047 rfl rfl ?_
          refine done_ (done_of HT_.out (by kernel_rfl)) ?_
          try go_wp2
          go_ret
          exact ⟨by first | rfl | (simp [errW_none, errW_some] <;> rfl) | (simp only [← hji35]; first | rfl | (simp [errW_none, errW_some] <;> rfl)) | (simp [*, errW_none, errW_some] <;> rfl), (zb HB)⟩
        rw [if_pos c39] at H
        have c39b0 : (((rd_T55 l0_0 (ji35)).f1) == t129) = true := beq_iff_eq.mpr c39
        have c39b1 : (((rd_T55 l0_0 (ji35)).f1) != t129) = false := bne_eq_false_iff_eq.mpr c39
        clear c39
        have H' := am H
        clear H
        try go_wp2
        replace BK122 := am (blk_drew BK122.out)
        replace HB := am (below_drew1 HB.out)
        have p128 : 0 ≤ ((ji35) : Int) := of_decide_eq_true zl
        have q128 : (ji35) < (l0_0.length : Int) := of_decide_eq_true zl
        obtain ⟨ad128, e128, hx128_0, hx128_1⟩ := at_T55 HR0_0.out (ji35) p128 q128
        have hw128_1 := hx128_1
        have hw128_0 := hx128_0
        cases e128
        replace hx128_0 := hcx HB hx128_0
        replace hx128_1 := hcx HB hx128_1
        replace p128 := eq_true p128
        replace q128 := eq_true q128
        refine start_ (n := 11) (S := fun w' => w'.cell? ⟨gb122, 0, none⟩ = some (.slice (some ad128) l0_0.length c0_0) ∧ w'.cell? ⟨gb122, 1, none⟩ = some (.slice A0_1 l0_1.length c0_1) ∧ w'.cell? (ad128.add (((ji35)).toNat * 2)) = some (.string ((rd_T55 l0_0 (ji35)).f0)) ∧ w'.cell? ⟨(ad128.add (((ji35)).toNat * 2)).block, (ad128.add (((ji35)).toNat * 2)).off + 1, none⟩ = some (.int .i64 ((rd_T55 l0_0 (ji35)).f1))) (ds := []) (bs 11 0) (by kernel_rfl) rfl rfl ⟨ce0 BK122, ce1 BK122, (hcx HB hw128_0), (hcx HB hw128_1)⟩ (fun hHeld => ?_); refine with_tabW spec_PoolOk.tab11 spec_PoolOk.bits11 (fun HT_ HW_ => ?_)
        generalize wr.drew = w40 at BK122 HB hx128_0 hx128_1 hHeld ⊢
        refine pu 0 53 11 1 rfl rfl ?_
        refine pu 2 55 11 5 rfl rfl ?_
        refine pu 3 56 11 13 rfl rfl ?_
        refine pu 8 61 11 269 rfl rfl ?_
        refine ta4 1 54 11 271 rfl rfl hHeld ?_
        refine pu 4 57 11 287 rfl rfl ?_
        refine pu 5 58 11 319 rfl rfl ?_
        refine ta4 6 59 11 383 rfl rfl hHeld ?_
        refine ta4 7 60 11 511 rfl rfl hHeld ?_
        refine oz 9 11 1023 rfl rfl (fun K hK => ?_)
        refine gs Try.func42 #[.agg #[.slice (some ad128) l0_0.length c0_0, .slice A0_1 l0_1.length c0_1], .int .i64 x4_3] rfl rfl ?_
        with_reducible refine (spec_l11Uses.calls k3 _ _ l0_0 _ _ l0_1 x4_3 t129 _ ?side1 ?side2 ?side3 ?side4 A38.out).mono ?_
        (case side1 => exact zc (Kd.C_below HR0_0.out HB.out))
        (case side2 => exact HC0_0.out)
        (case side3 => exact zc (Kd.C_below HR0_1.out HB.out))
        (case side4 => exact HC0_1.out)
        rintro e w41 ⟨rfl, hb⟩
        refine ⟨_, rfl, ?_⟩
        replace BK122 := am (blk_below (zk BK122) hb)
        replace HB := am (below_step (zb HB) hb)
        (try clear hb)
        (try clear hb2)
        (try clear hk)
        (try clear hi)
        refine hK.out _ _ ⟨ce0 BK122, ce1 BK122, (hcx HB hw128_0), (hcx HB hw128_1)⟩ (fun hHeld => ?_)
        clear hK K
        refine norm_ (a' := ?_) ?_ ?_
        rotate_left
        · show Act.put _ (some 62) _ = _
          simp only [Act.put, List.setIfInBounds_toArray, List.set_cons_zero, List.set_cons_succ, i64_w, i32_w]
          rfl
        refine pu 10 63 11 2047 rfl rfl ?_
        refine done_ (done_of HT_.out (by kernel_rfl)) ?_
        try go_wp2
        go_roundg k3
        case measure => have := HJ1.out; have := HK2.out; have := HK3.out; omega
        case rel => exact ⟨(wrap64 (x4_3 + 1)), ze, H', ⟨by have := HJ1.out; have := HK2.out; have := HK3.out; omega⟩, ⟨zk BK122⟩, ⟨zb HB⟩⟩
    rw [if_pos c12] at H
    have c12b0 : decide (x3_2 < (l0_1.length : Int)) = true := decide_eq_true c12
    clear c12
    by_cases c13 : 0 ≤ x3_2
    rotate_left
    · rw [if_neg c13] at H
      exact absurd H (by simp)
    rw [if_pos c13] at H
    have c13b0 : decide (0 ≤ x3_2) = true := decide_eq_true c13
    clear c13
    replace H := obs H
    obtain ⟨t125, A140, H⟩ := H
    replace H : (if t125 = true then (if x3_2 > 0 then (if 0 ≤ (wrap64 (x3_2 - 1)) then (if (wrap64 (x3_2 - 1)) < (l0_1.length : Int) then (if ((Op.bytesLess (((rd_T38 l0_1 (wrap64 (x3_2 - 1))).f0).toList) (((rd_T38 l0_1 x3_2).f0).toList)) = true) then (spec_PoolOk.l0 k2 (wrap64 (x3_2 + 1)) l0_0 l0_1) else (some false)) else (none)) else (none)) else (spec_PoolOk.l0 k2 (wrap64 (x3_2 + 1)) l0_0 l0_1)) else (some false)) = some r := H
    have A14 := am A140
    clear A140
    by_cases c15 : t125 = true
    rotate_left
    · replace c15 := Bool.eq_false_iff.mpr c15
      subst c15
      have H1 : (some false) = some r := by rw [if_neg (show ¬ (false = true) by decide)] at H; exact H
      clear H
      have H := H1
      clear H1
      obtain rfl := Option.some.inj H
      have hcz30_0 := ce0 BK122
      have hcz30_1 := ce1 BK122
      have hfz30_0 := bfz BK122 0
      have hfz30_1 := bfz BK122 1
      try go_wp2
      replace BK122 := am (blk_drew BK122.out)
      replace HB := am (below_drew1 HB.out)
      have p124 : 0 ≤ (x3_2 : Int) := of_decide_eq_true zl
      have q124 : x3_2 < (l0_1.length : Int) := of_decide_eq_true zl
      obtain ⟨ad124, A124_1, c124_1, e124, hx124_0, hx124_1, hl124_1, hi124_1⟩ := at_T38 HR0_1.out x3_2 p124 q124
      have hw124_1 := hx124_1
      have hw124_0 := hx124_0
      cases e124
      replace hx124_0 := hcx HB hx124_0
      replace hx124_1 := hcx HB hx124_1
      have HR124_1 := am hi124_1
      have HC124_1 := am hl124_1
      clear hi124_1 hl124_1
      replace p124 := eq_true p124
      replace q124 := eq_true q124
      refine start_ (n := 27) (S := fun w' => w'.cell? ⟨gb122, 0, none⟩ = some (.slice A0_0 l0_0.length c0_0) ∧ w'.cell? ⟨gb122, 1, none⟩ = some (.slice (some ad124) l0_1.length c0_1) ∧ w'.cell? (ad124.add ((x3_2).toNat * 2)) = some (.string ((rd_T38 l0_1 x3_2).f0)) ∧ w'.cell? ⟨(ad124.add ((x3_2).toNat * 2)).block, (ad124.add ((x3_2).toNat * 2)).off + 1, none⟩ = some (.slice A124_1 ((rd_T38 l0_1 x3_2).f1).length c124_1)) (ds := []) (bs 27 0) (by kernel_rfl) rfl rfl ⟨ce0 BK122, ce1 BK122, (hcx HB hw124_0), (hcx HB hw124_1)⟩ (fun hHeld => ?_); refine with_tabW spec_PoolOk.tab6 spec_PoolOk.bits6 (fun HT_ HW_ => ?_)
      generalize wr.drew = w31 at BK122 HB HR124_1 hx124_0 hx124_1 hHeld ⊢
      refine pu 0 22 27 1 rfl rfl ?_
      refine pu 2 24 27 5 rfl rfl ?_
      refine ta4 1 23 27 7 rfl rfl hHeld ?_
      refine pu 3 25 27 15 rfl rfl ?_
      refine ta4 4 26 27 31 rfl rfl hHeld ?_
      refine oz 5 27 63 rfl rfl (fun K hK => ?_)
      refine gs Try.func21 #[.agg #[.string ((rd_T38 l0_1 x3_2).f0), .slice A124_1 ((rd_T38 l0_1 x3_2).f1).length c124_1]] rfl rfl ?_
      with_reducible refine (spec_VolOk.calls k2 ((rd_T38 l0_1 x3_2).f0) _ _ ((rd_T38 l0_1 x3_2).f1) false _ ?side1 ?side2 A14.out).mono ?_
      (case side1 => exact zc (Kd.C_below HR124_1.out HB.out))
      (case side2 => exact HC124_1.out)
      rintro e w32 ⟨rfl, hb⟩
      refine ⟨_, rfl, ?_⟩
      replace BK122 := am (blk_below (zk BK122) hb)
      replace HB := am (below_step (zb HB) hb)
      (try clear hb)
      (try clear hb2)
      (try clear hk)
      (try clear hi)
      refine hK.out _ _ ⟨ce0 BK122, ce1 BK122, (hcx HB hw124_0), (hcx HB hw124_1)⟩ (fun hHeld => ?_)
      clear hK K
      refine norm_ (a' := ?_) ?_ ?_
      rotate_left
      · show Act.put _ (some 27) _ = _
        simp only [Act.put, List.setIfInBounds_toArray, List.set_cons_zero, List.set_cons_succ, i64_w, i32_w]
        rfl
      refine pu 6 28 27 127 rfl rfl ?_
      refine pu 7 29 27 255 rfl rfl ?_
      refine po 8 30 27 511 rfl rfl ?_
      refine po 9 31 27 1023 rfl rfl ?_
      refine po 10 32 27 2047 rfl rfl ?_
      refine po 11 33 27 4095 rfl rfl ?_
      refine po 12 34 27 8191 rfl rfl ?_
      refine po 13 35 27 16383 rfl rfl ?_
      refine po 14 36 27 32767 rfl rfl ?_
      refine po 15 37 27 65535 rfl rfl ?_
      refine po 16 38 27 131071 rfl rfl ?_
      refine po 17 39 27 262143 rfl rfl ?_
      refine po 18 40 27 524287 rfl rfl ?_
      refine po 19 41 27 1048575 rfl rfl ?_
      refine po 20 42 27 2097151 rfl rfl ?_
      refine po 21 43 27 4194303 rfl rfl ?_
      refine po 22 44 27 8388607 rfl rfl ?_
      refine po 23 45 27 16777215 rfl rfl ?_
      refine po 24 46 27 33554431 rfl rfl ?_
      refine po 25 47 27 67108863 rfl rfl ?_
      refine pu 26 48 27 134217727 rfl rfl ?_
      refine done_ (done_of HT_.out (by kernel_rfl)) ?_
      try go_wp2
      go_ret
      exact ⟨zv, (zb HB)⟩
    subst c15
    have H1 : (if x3_2 > 0 then (if 0 ≤ (wrap64 (x3_2 - 1)) then (if (wrap64 (x3_2 - 1)) < (l0_1.length : Int) then (if ((Op.bytesLess (((rd_T38 l0_1 (wrap64 (x3_2 - 1))).f0).toList) (((rd_T38 l0_1 x3_2).f0).toList)) = true) then (spec_PoolOk.l0 k2 (wrap64 (x3_2 + 1)) l0_0 l0_1) else (some false)) else (none)) else (none)) else (spec_PoolOk.l0 k2 (wrap64 (x3_2 + 1)) l0_0 l0_1)) = some r := by rw [if_pos rfl] at H; exact H
    clear H
    have H := H1
    clear H1
    by_cases c16 : x3_2 > 0
    rotate_left
    · rw [if_neg c16] at H
      have c16b0 : decide (0 < x3_2) = false := decide_eq_false c16
      clear c16
      have H' := am H
      clear H
      have hcz27_0 := ce0 BK122
      have hcz27_1 := ce1 BK122
      have hfz27_0 := bfz BK122 0
      have hfz27_1 := bfz BK122 1
      try go_wp2
      replace BK122 := am (blk_drew BK122.out)
      replace HB := am (below_drew1 HB.out)
      have p124 : 0 ≤ (x3_2 : Int) := of_decide_eq_true zl
      have q124 : x3_2 < (l0_1.length : Int) := of_decide_eq_true zl
      obtain ⟨ad124, A124_1, c124_1, e124, hx124_0, hx124_1, hl124_1, hi124_1⟩ := at_T38 HR0_1.out x3_2 p124 q124
      have hw124_1 := hx124_1
      have hw124_0 := hx124_0
      cases e124
      replace hx124_0 := hcx HB hx124_0
      replace hx124_1 := hcx HB hx124_1
      have HR124_1 := am hi124_1
      have HC124_1 := am hl124_1
      clear hi124_1 hl124_1
      replace p124 := eq_true p124
      replace q124 := eq_true q124
      refine start_ (n := 27) (S := fun w' => w'.cell? ⟨gb122, 0, none⟩ = some (.slice A0_0 l0_0.length c0_0) ∧ w'.cell? ⟨gb122, 1, none⟩ = some (.slice (some ad124) l0_1.length c0_1) ∧ w'.cell? (ad124.add ((x3_2).toNat * 2)) = some (.string ((rd_T38 l0_1 x3_2).f0)) ∧ w'.cell? ⟨(ad124.add ((x3_2).toNat * 2)).block, (ad124.add ((x3_2).toNat * 2)).off + 1, none⟩ = some (.slice A124_1 ((rd_T38 l0_1 x3_2).f1).length c124_1)) (ds := []) (bs 27 0) (by kernel_rfl) rfl rfl ⟨ce0 BK122, ce1 BK122, (hcx HB hw124_0), (hcx HB hw124_1)⟩ (fun hHeld => ?_); refine with_tabW spec_PoolOk.tab6 spec_PoolOk.bits6 (fun HT_ HW_ => ?_)
      generalize wr.drew = w28 at BK122 HB HR124_1 hx124_0 hx124_1 hHeld ⊢
      refine pu 0 22 27 1 rfl rfl ?_
      refine pu 2 24 27 5 rfl rfl ?_
      refine ta4 1 23 27 7 rfl rfl hHeld ?_
      refine pu 3 25 27 15 rfl rfl ?_
      refine ta4 4 26 27 31 rfl rfl hHeld ?_
      refine oz 5 27 63 rfl rfl (fun K hK => ?_)
      refine gs Try.func21 #[.agg #[.string ((rd_T38 l0_1 x3_2).f0), .slice A124_1 ((rd_T38 l0_1 x3_2).f1).length c124_1]] rfl rfl ?_
      with_reducible refine (spec_VolOk.calls k2 ((rd_T38 l0_1 x3_2).f0) _ _ ((rd_T38 l0_1 x3_2).f1) true _ ?side1 ?side2 A14.out).mono ?_
      (case side1 => exact zc (Kd.C_below HR124_1.out HB.out))
      (case side2 => exact HC124_1.out)
      rintro e w29 ⟨rfl, hb⟩
      refine ⟨_, rfl, ?_⟩
      replace BK122 := am (blk_below (zk BK122) hb)
      replace HB := am (below_step (zb HB) hb)
      (try clear hb)
      (try clear hb2)
      (try clear hk)
      (try clear hi)
      refine hK.out _ _ ⟨ce0 BK122, ce1 BK122, (hcx HB hw124_0), (hcx HB hw124_1)⟩ (fun hHeld => ?_)
      clear hK K
      refine norm_ (a' := ?_) ?_ ?_
      rotate_left
      · show Act.put _ (some 27) _ = _
        simp only [Act.put, List.setIfInBounds_toArray, List.set_cons_zero, List.set_cons_succ, i64_w, i32_w]
        rfl
      refine pu 6 28 27 127 rfl rfl ?_
      refine pu 7 29 27 255 rfl rfl ?_
      refine pu 8 30 27 511 rfl rfl ?_
      refine pu 9 31 27 1023 rfl rfl ?_
      refine pu 10 32 27 2047 rfl rfl ?_
      refine po 11 33 27 4095 rfl rfl ?_
      refine po 12 34 27 8191 rfl rfl ?_
      refine po 13 35 27 16383 rfl rfl ?_
      refine po 14 36 27 32767 rfl rfl ?_
      refine po 15 37 27 65535 rfl rfl ?_
      refine po 16 38 27 131071 rfl rfl ?_
      refine po 17 39 27 262143 rfl rfl ?_
      refine po 18 40 27 524287 rfl rfl ?_
      refine po 19 41 27 1048575 rfl rfl ?_
      refine po 20 42 27 2097151 rfl rfl ?_
      refine po 21 43 27 4194303 rfl rfl ?_
      refine po 22 44 27 8388607 rfl rfl ?_
      refine po 23 45 27 16777215 rfl rfl ?_
      refine po 24 46 27 33554431 rfl rfl ?_
      refine pu 25 47 27 67108863 rfl rfl ?_
      refine pu 26 48 27 134217727 rfl rfl ?_
      refine done_ (done_of HT_.out (by kernel_rfl)) ?_
      try go_wp2
      go_roundg k2
      case measure => have := HJ1.out; have := HK2.out; omega
      case rel => exact ⟨(wrap64 (x3_2 + 1)), ze, H', ⟨by have := HJ1.out; have := HK2.out; omega⟩, ⟨zk BK122⟩, ⟨zb HB⟩⟩
    rw [if_pos c16] at H
    have c16b0 : decide (0 < x3_2) = true := decide_eq_true c16
    clear c16
    obtain ⟨ji17, hji17⟩ : ∃ j_ : Int, (wrap64 (x3_2 - 1)) = j_ := ⟨_, rfl⟩
    replace H : (if 0 ≤ (ji17) then (if (ji17) < (l0_1.length : Int) then (if ((Op.bytesLess (((rd_T38 l0_1 (ji17)).f0).toList) (((rd_T38 l0_1 x3_2).f0).toList)) = true) then (spec_PoolOk.l0 k2 (wrap64 (x3_2 + 1)) l0_0 l0_1) else (some false)) else (none)) else (none)) = some r := by first | (rw [hji17] at H; exact H) | (simp only [hji17] at H ⊢; exact H)
    (try rw [hji17] at A14)
    have hji17w : (IntKind.i64.wrap (x3_2 - 1)) = ji17 := (i64_w _).trans hji17
    by_cases c18 : 0 ≤ (ji17)
    rotate_left
    · rw [if_neg c18] at H
      exact absurd H (by simp)
    rw [if_pos c18] at H
    have c18b0 : decide (0 ≤ (ji17)) = true := decide_eq_true c18
    clear c18
    by_cases c19 : (ji17) < (l0_1.length : Int)
    rotate_left
    · rw [if_neg c19] at H
      exact absurd H (by simp)
    rw [if_pos c19] at H
    have c19b0 : decide ((ji17) < (l0_1.length : Int)) = true := decide_eq_true c19
    clear c19
    by_cases c20 : ((Op.bytesLess (((rd_T38 l0_1 (ji17)).f0).toList) (((rd_T38 l0_1 x3_2).f0).toList)) = true)
    · rw [if_pos c20] at H
      have c20b0 : (Op.bytesLess (((rd_T38 l0_1 (ji17)).f0).toList) (((rd_T38 l0_1 x3_2).f0).toList)) = true := c20
      clear c20
      have H' := am H
      clear H
      have hcz21_0 := ce0 BK122
      have hcz21_1 := ce1 BK122
      have hfz21_0 := bfz BK122 0
      have hfz21_1 := bfz BK122 1
      try go_wp2
      replace BK122 := am (blk_drew BK122.out)
      replace HB := am (below_drew1 HB.out)
      have p124 : 0 ≤ (x3_2 : Int) := of_decide_eq_true zl
      have q124 : x3_2 < (l0_1.length : Int) := of_decide_eq_true zl
      obtain ⟨ad124, A124_1, c124_1, e124, hx124_0, hx124_1, hl124_1, hi124_1⟩ := at_T38 HR0_1.out x3_2 p124 q124
      have hw124_1 := hx124_1
      have hw124_0 := hx124_0
      cases e124
      replace hx124_0 := hcx HB hx124_0
      replace hx124_1 := hcx HB hx124_1
      have HR124_1 := am hi124_1
      have HC124_1 := am hl124_1
      clear hi124_1 hl124_1
      replace p124 := eq_true p124
      replace q124 := eq_true q124
      have p126 : 0 ≤ ((ji17) : Int) := of_decide_eq_true zl
      have q126 : (ji17) < (l0_1.length : Int) := of_decide_eq_true zl
      obtain ⟨ad126, A126_1, c126_1, e126, hx126_0, hx126_1, hl126_1, hi126_1⟩ := at_T38 HR0_1.out (ji17) p126 q126
      have hw126_1 := hx126_1
      have hw126_0 := hx126_0
      obtain rfl : ad124 = ad126 := (by injection e126)
      replace hx126_0 := hcx HB hx126_0
      replace hx126_1 := hcx HB hx126_1
      have HR126_1 := am hi126_1
      have HC126_1 := am hl126_1
      clear hi126_1 hl126_1
      replace p126 := eq_true p126
      replace q126 := eq_true q126
      have p127 : 0 ≤ (x3_2 : Int) := of_decide_eq_true zl
      have q127 : x3_2 < (l0_1.length : Int) := of_decide_eq_true zl
      obtain ⟨ad127, A127_1, c127_1, e127, hx127_0, hx127_1, hl127_1, hi127_1⟩ := at_T38 HR0_1.out x3_2 p127 q127
      have hw127_1 := hx127_1
      have hw127_0 := hx127_0
      obtain rfl : ad124 = ad127 := (by injection e127)
      replace hx127_0 := hcx HB hx127_0
      replace hx127_1 := hcx HB hx127_1
      have HR127_1 := am hi127_1
      have HC127_1 := am hl127_1
      clear hi127_1 hl127_1
      replace p127 := eq_true p127
      replace q127 := eq_true q127
      refine start_ (n := 27) (S := fun w' => w'.cell? ⟨gb122, 0, none⟩ = some (.slice A0_0 l0_0.length c0_0) ∧ w'.cell? ⟨gb122, 1, none⟩ = some (.slice (some ad124) l0_1.length c0_1) ∧ w'.cell? (ad124.add ((x3_2).toNat * 2)) = some (.string ((rd_T38 l0_1 x3_2).f0)) ∧ w'.cell? ⟨(ad124.add ((x3_2).toNat * 2)).block, (ad124.add ((x3_2).toNat * 2)).off + 1, none⟩ = some (.slice A124_1 ((rd_T38 l0_1 x3_2).f1).length c124_1) ∧ w'.cell? (ad124.add (((ji17)).toNat * 2)) = some (.string ((rd_T38 l0_1 (ji17)).f0)) ∧ w'.cell? ⟨(ad124.add (((ji17)).toNat * 2)).block, (ad124.add (((ji17)).toNat * 2)).off + 1, none⟩ = some (.slice A126_1 ((rd_T38 l0_1 (ji17)).f1).length c126_1) ∧ w'.cell? (ad124.add ((x3_2).toNat * 2)) = some (.string ((rd_T38 l0_1 x3_2).f0)) ∧ w'.cell? ⟨(ad124.add ((x3_2).toNat * 2)).block, (ad124.add ((x3_2).toNat * 2)).off + 1, none⟩ = some (.slice A127_1 ((rd_T38 l0_1 x3_2).f1).length c127_1)) (ds := []) (bs 27 0) (by kernel_rfl) rfl rfl ⟨ce0 BK122, ce1 BK122, (hcx HB hw124_0), (hcx HB hw124_1), (hcx HB hw126_0), (hcx HB hw126_1), (hcx HB hw127_0), (hcx HB hw127_1)⟩ (fun hHeld => ?_); refine with_tabW spec_PoolOk.tab6 spec_PoolOk.bits6 (fun HT_ HW_ => ?_)
      generalize wr.drew = w22 at BK122 HB HR124_1 HR126_1 HR127_1 hx124_0 hx124_1 hx126_0 hx126_1 hx127_0 hx127_1 hHeld ⊢
      refine pu 0 22 27 1 rfl rfl ?_
      refine pu 2 24 27 5 rfl rfl ?_
      refine ta8 1 23 27 7 rfl rfl hHeld ?_
      refine pu 3 25 27 15 rfl rfl ?_
      refine ta8 4 26 27 31 rfl rfl hHeld ?_
      refine oz 5 27 63 rfl rfl (fun K hK => ?_)
      refine gs Try.func21 #[.agg #[.string ((rd_T38 l0_1 x3_2).f0), .slice A124_1 ((rd_T38 l0_1 x3_2).f1).length c124_1]] rfl rfl ?_
      with_reducible refine (spec_VolOk.calls k2 ((rd_T38 l0_1 x3_2).f0) _ _ ((rd_T38 l0_1 x3_2).f1) true _ ?side1 ?side2 A14.out).mono ?_
      (case side1 => exact zc (Kd.C_below HR124_1.out HB.out))
      (case side2 => exact HC124_1.out)
      rintro e w23 ⟨rfl, hb⟩
      refine ⟨_, rfl, ?_⟩
      replace BK122 := am (blk_below (zk BK122) hb)
      replace HB := am (below_step (zb HB) hb)
      (try clear hb)
      (try clear hb2)
      (try clear hk)
      (try clear hi)
      refine hK.out _ _ ⟨ce0 BK122, ce1 BK122, (hcx HB hw124_0), (hcx HB hw124_1), (hcx HB hw126_0), (hcx HB hw126_1), (hcx HB hw127_0), (hcx HB hw127_1)⟩ (fun hHeld => ?_)
      clear hK K
      refine norm_ (a' := ?_) ?_ ?_
      rotate_left
      · show Act.put _ (some 27) _ = _
        simp only [Act.put, List.setIfInBounds_toArray, List.set_cons_zero, List.set_cons_succ, i64_w, i32_w]
        rfl
      refine pu 6 28 27 127 rfl rfl ?_
      refine pu 7 29 27 255 rfl rfl ?_
      refine pu 8 30 27 511 rfl rfl ?_
      refine pu 9 31 27 1023 rfl rfl ?_
      refine pu 10 32 27 2047 rfl rfl ?_
      refine pu 11 33 27 4095 rfl rfl ?_
      refine pu 13 35 27 12287 rfl rfl ?_
      refine pu 14 36 27 28671 rfl rfl ?_
      refine pu 18 40 27 290815 rfl rfl ?_
      refine pu 20 42 27 1339391 rfl rfl ?_
      refine ta8 12 34 27 1343487 rfl rfl hHeld ?_
      refine pu 15 37 27 1376255 rfl rfl ?_
      refine pu 16 38 27 1441791 rfl rfl ?_
      refine ta8 17 39 27 1572863 rfl rfl hHeld ?_
      refine ta8 19 41 27 2097151 rfl rfl hHeld ?_
      refine pu 21 43 27 4194303 rfl rfl ?_
      refine pu 22 44 27 8388607 rfl rfl ?_
      refine ta8 23 45 27 16777215 rfl rfl hHeld ?_
      refine pu 24 46 27 33554431 rfl rfl ?_
      refine pu 25 47 27 67108863 rfl rfl ?_
      refine pu 26 48 27 134217727 rfl rfl ?_
      refine done_ (done_of HT_.out (by kernel_rfl)) ?_
      try go_wp2
      go_roundg k2
      case measure => have := HJ1.out; have := HK2.out; omega
      case rel => exact ⟨(wrap64 (x3_2 + 1)), ze, H', ⟨by have := HJ1.out; have := HK2.out; omega⟩, ⟨zk BK122⟩, ⟨zb HB⟩⟩
    rw [if_neg c20] at H
    have c20b0 : (Op.bytesLess (((rd_T38 l0_1 (ji17)).f0).toList) (((rd_T38 l0_1 x3_2).f0).toList)) = false := by simpa using c20
    clear c20
    obtain rfl := Option.some.inj H
    have hcz24_0 := ce0 BK122
    have hcz24_1 := ce1 BK122
    have hfz24_0 := bfz BK122 0
    have hfz24_1 := bfz BK122 1
    try go_wp2
    replace BK122 := am (blk_drew BK122.out)
    replace HB := am (below_drew1 HB.out)
    have p124 : 0 ≤ (x3_2 : Int) := of_decide_eq_true zl
    have q124 : x3_2 < (l0_1.length : Int) := of_decide_eq_true zl
    obtain ⟨ad124, A124_1, c124_1, e124, hx124_0, hx124_1, hl124_1, hi124_1⟩ := at_T38 HR0_1.out x3_2 p124 q124
    have hw124_1 := hx124_1
    have hw124_0 := hx124_0
    cases e124
    replace hx124_0 := hcx HB hx124_0
    replace hx124_1 := hcx HB hx124_1
    have HR124_1 := am hi124_1
    have HC124_1 := am hl124_1
    clear hi124_1 hl124_1
    replace p124 := eq_true p124
    replace q124 := eq_true q124
    have p126 : 0 ≤ ((ji17) : Int) := of_decide_eq_true zl
    have q126 : (ji17) < (l0_1.length : Int) := of_decide_eq_true zl
    obtain ⟨ad126, A126_1, c126_1, e126, hx126_0, hx126_1, hl126_1, hi126_1⟩ := at_T38 HR0_1.out (ji17) p126 q126
    have hw126_1 := hx126_1
    have hw126_0 := hx126_0
    obtain rfl : ad124 = ad126 := (by injection e126)
    replace hx126_0 := hcx HB hx126_0
    replace hx126_1 := hcx HB hx126_1
    have HR126_1 := am hi126_1
    have HC126_1 := am hl126_1
    clear hi126_1 hl126_1
    replace p126 := eq_true p126
    replace q126 := eq_true q126
    have p127 : 0 ≤ (x3_2 : Int) := of_decide_eq_true zl
    have q127 : x3_2 < (l0_1.length : Int) := of_decide_eq_true zl
    obtain ⟨ad127, A127_1, c127_1, e127, hx127_0, hx127_1, hl127_1, hi127_1⟩ := at_T38 HR0_1.out x3_2 p127 q127
    have hw127_1 := hx127_1
    have hw127_0 := hx127_0
    obtain rfl : ad124 = ad127 := (by injection e127)
    replace hx127_0 := hcx HB hx127_0
    replace hx127_1 := hcx HB hx127_1
    have HR127_1 := am hi127_1
    have HC127_1 := am hl127_1
    clear hi127_1 hl127_1
    replace p127 := eq_true p127
    replace q127 := eq_true q127
    refine start_ (n := 27) (S := fun w' => w'.cell? ⟨gb122, 0, none⟩ = some (.slice A0_0 l0_0.length c0_0) ∧ w'.cell? ⟨gb122, 1, none⟩ = some (.slice (some ad124) l0_1.length c0_1) ∧ w'.cell? (ad124.add ((x3_2).toNat * 2)) = some (.string ((rd_T38 l0_1 x3_2).f0)) ∧ w'.cell? ⟨(ad124.add ((x3_2).toNat * 2)).block, (ad124.add ((x3_2).toNat * 2)).off + 1, none⟩ = some (.slice A124_1 ((rd_T38 l0_1 x3_2).f1).length c124_1) ∧ w'.cell? (ad124.add (((ji17)).toNat * 2)) = some (.string ((rd_T38 l0_1 (ji17)).f0)) ∧ w'.cell? ⟨(ad124.add (((ji17)).toNat * 2)).block, (ad124.add (((ji17)).toNat * 2)).off + 1, none⟩ = some (.slice A126_1 ((rd_T38 l0_1 (ji17)).f1).length c126_1) ∧ w'.cell? (ad124.add ((x3_2).toNat * 2)) = some (.string ((rd_T38 l0_1 x3_2).f0)) ∧ w'.cell? ⟨(ad124.add ((x3_2).toNat * 2)).block, (ad124.add ((x3_2).toNat * 2)).off + 1, none⟩ = some (.slice A127_1 ((rd_T38 l0_1 x3_2).f1).length c127_1)) (ds := []) (bs 27 0) (by kernel_rfl) rfl rfl ⟨ce0 BK122, ce1 BK122, (hcx HB hw124_0), (hcx HB hw124_1), (hcx HB hw126_0), (hcx HB hw126_1), (hcx HB hw127_0), (hcx HB hw127_1)⟩ (fun hHeld => ?_); refine with_tabW spec_PoolOk.tab6 spec_PoolOk.bits6 (fun HT_ HW_ => ?_)
    generalize wr.drew = w25 at BK122 HB HR124_1 HR126_1 HR127_1 hx124_0 hx124_1 hx126_0 hx126_1 hx127_0 hx127_1 hHeld ⊢
    refine pu 0 22 27 1 rfl rfl ?_
    refine pu 2 24 27 5 rfl rfl ?_
    refine ta8 1 23 27 7 rfl rfl hHeld ?_
    refine pu 3 25 27 15 rfl rfl ?_
    refine ta8 4 26 27 31 rfl rfl hHeld ?_
    refine oz 5 27 63 rfl rfl (fun K hK => ?_)
    refine gs Try.func21 #[.agg #[.string ((rd_T38 l0_1 x3_2).f0), .slice A124_1 ((rd_T38 l0_1 x3_2).f1).length c124_1]] rfl rfl ?_
    with_reducible refine (spec_VolOk.calls k2 ((rd_T38 l0_1 x3_2).f0) _ _ ((rd_T38 l0_1 x3_2).f1) true _ ?side1 ?side2 A14.out).mono ?_
    (case side1 => exact zc (Kd.C_below HR124_1.out HB.out))
    (case side2 => exact HC124_1.out)
    rintro e w26 ⟨rfl, hb⟩
    refine ⟨_, rfl, ?_⟩
    replace BK122 := am (blk_below (zk BK122) hb)
    replace HB := am (below_step (zb HB) hb)
    (try clear hb)
    (try clear hb2)
    (try clear hk)
    (try clear hi)
    refine hK.out _ _ ⟨ce0 BK122, ce1 BK122, (hcx HB hw124_0), (hcx HB hw124_1), (hcx HB hw126_0), (hcx HB hw126_1), (hcx HB hw127_0), (hcx HB hw127_1)⟩ (fun hHeld => ?_)
    clear hK K
    refine norm_ (a' := ?_) ?_ ?_
    rotate_left
    · show Act.put _ (some 27) _ = _
      simp only [Act.put, List.setIfInBounds_toArray, List.set_cons_zero, List.set_cons_succ, i64_w, i32_w]
      rfl
    refine pu 6 28 27 127 rfl rfl ?_
    refine pu 7 29 27 255 rfl rfl ?_
    refine pu 8 30 27 511 rfl rfl ?_
    refine pu 9 31 27 1023 rfl rfl ?_
    refine pu 10 32 27 2047 rfl rfl ?_
    refine pu 11 33 27 4095 rfl rfl ?_
    refine pu 13 35 27 12287 rfl rfl ?_
    refine pu 14 36 27 28671 rfl rfl ?_
    refine pu 18 40 27 290815 rfl rfl ?_
    refine pu 20 42 27 1339391 rfl rfl ?_
    refine ta8 12 34 27 1343487 rfl rfl hHeld ?_
    refine pu 15 37 27 1376255 rfl rfl ?_
    refine pu 16 38 27 1441791 rfl rfl ?_
    refine ta8 17 39 27 1572863 rfl rfl hHeld ?_
    refine ta8 19 41 27 2097151 rfl rfl hHeld ?_
    refine pu 21 43 27 4194303 rfl rfl ?_
    refine pu 22 44 27 8388607 rfl rfl ?_
    refine ta8 23 45 27 16777215 rfl rfl hHeld ?_
    refine pu 24 46 27 33554431 rfl rfl ?_
    refine pu 25 47 27 67108863 rfl rfl ?_
    refine pu 26 48 27 134217727 rfl rfl ?_
    refine done_ (done_of HT_.out (by kernel_rfl)) ?_
    try go_wp2
    go_ret
    exact ⟨by first | rfl | (simp [errW_none, errW_some] <;> rfl) | (simp only [← hji17]; first | rfl | (simp [errW_none, errW_some] <;> rfl)) | (simp [*, errW_none, errW_some] <;> rfl), (zb HB)⟩
end Go.Proofs.Ytooamacekmjpaaa.PFnPoolOnce
