/- The walk: each function that the law comes to as a plain Lean function, and a proof that the Go code answers so. Written by this session's program over the kit's printer. -/
import Derived.Test.YtooamacekmjpaaaZ
import Derived.Test.YtooamacekmjpaaaQFnPoolOnce0
import Derived.Test.YtooamacekmjpaaaQFnPoolOnce5
namespace Go.Proofs.Ytooamacekmjpaaa.PFnPoolOnce
open Go.RowKit Go.Proofs.YtooamacekmjpaaaW.PrintWords Go.Proofs.YtooamacekmjpaaaW.PrintLast Go.Proofs.YtooamacekmjpaaaW.PrintMore
attribute [local go_sem] max2_int min2_int max_two min_two max_three min_three max_four min_four   -- for this text's walks alone
set_option linter.unusedVariables false
set_option linter.unusedSimpArgs false
/-! ### impl_PoolOk: function 17 -/
mutual
def impl_PoolOk.j0 : Nat → Bool → List (S55) → List (S38) → Option (Bool)
 | 0, _, _, _ => none
 | k + 1, x18, x139000, x139001 => if x18 = true then (some false) else (impl_PoolOk.l0 k x139001 (x139001.length : Int) 0 x139000 x139001)
def impl_PoolOk.l0 : Nat → List (S38) → Int → Int → List (S55) → List (S38) → Option (Bool)
 | 0, _, _, _, _, _ => none
 | k + 1, x20, x21, x22, x139000, x139001 => if x22 < x21 then (if 0 ≤ x22 then (if x22 < (x20.length : Int) then ((impl_VolOk.f k ((rd_T38 x20 x22).f0) ((rd_T38 x20 x22).f1)).bind fun t142 => (if t142 = true then (if x22 > 0 then (if 0 ≤ (wrap64 (x22 - 1)) then (if (wrap64 (x22 - 1)) < (x139001.length : Int) then (if ((Op.bytesLess (((rd_T38 x139001 (wrap64 (x22 - 1))).f0).toList) (((rd_T38 x20 x22).f0).toList)) = true) then (impl_PoolOk.l0 k x20 x21 (wrap64 (x22 + 1)) x139000 x139001) else (some false)) else (none)) else (none)) else (impl_PoolOk.l0 k x20 x21 (wrap64 (x22 + 1)) x139000 x139001)) else (some false))) else (none)) else (none)) else (impl_PoolOk.l1 k 1 x139000 x139001)
def impl_PoolOk.l1 : Nat → Int → List (S55) → List (S38) → Option (Bool)
 | 0, _, _, _ => none
 | k + 1, x5, x139000, x139001 => if x5 ≤ 8 then (impl_PoolOk.l2 k x5 0 x139001 (x139001.length : Int) 0 x139000 x139001) else (some true)
def impl_PoolOk.l2 : Nat → Int → Int → List (S38) → Int → Int → List (S55) → List (S38) → Option (Bool)
 | 0, _, _, _, _, _, _, _ => none
 | k + 1, x5, x6, x52, x53, x54, x139000, x139001 => if x54 < x53 then (if 0 ≤ x54 then (if x54 < (x52.length : Int) then ((impl_Vol_uses.f k ((rd_T38 x52 x54).f0) ((rd_T38 x52 x54).f1) x5).bind fun t146 => (impl_PoolOk.l2 k x5 (wrap64 (x6 + t146)) x52 x53 (wrap64 (x54 + 1)) x139000 x139001)) else (none)) else (none)) else (if 0 ≤ (wrap64 (x5 - 1)) then (if (wrap64 (x5 - 1)) < (x139000.length : Int) then (if x6 = ((rd_T55 x139000 (wrap64 (x5 - 1))).f1) then (impl_PoolOk.l1 k (wrap64 (x5 + 1)) x139000 x139001) else (some false)) else (none)) else (none))
end
def impl_PoolOk.f (k : Nat) (l0_0 : List (S55)) (l0_1 : List (S38)) : Option (Bool) := (impl_StoreOk.f k l0_0).bind fun t139 => (if t139 = true then (impl_PoolOk.j0 k (decide ((l0_1.length : Int) > 4)) l0_0 l0_1) else (impl_PoolOk.j0 k true l0_0 l0_1))
theorem impl_PoolOk.mono_l : ∀ k, (∀ y0 y1 y2, LeO (impl_PoolOk.j0 k y0 y1 y2) (impl_PoolOk.j0 (k + 1) y0 y1 y2)) ∧ (∀ y0 y1 y2 y3 y4, LeO (impl_PoolOk.l0 k y0 y1 y2 y3 y4) (impl_PoolOk.l0 (k + 1) y0 y1 y2 y3 y4)) ∧ (∀ y0 y1 y2, LeO (impl_PoolOk.l1 k y0 y1 y2) (impl_PoolOk.l1 (k + 1) y0 y1 y2)) ∧ (∀ y0 y1 y2 y3 y4 y5 y6, LeO (impl_PoolOk.l2 k y0 y1 y2 y3 y4 y5 y6) (impl_PoolOk.l2 (k + 1) y0 y1 y2 y3 y4 y5 y6))
 | 0 => ⟨fun _ _ _ r h => by simp [impl_PoolOk.j0] at h, fun _ _ _ _ _ r h => by simp [impl_PoolOk.l0] at h, fun _ _ _ r h => by simp [impl_PoolOk.l1] at h, fun _ _ _ _ _ _ _ r h => by simp [impl_PoolOk.l2] at h⟩
 | k + 1 => by
  obtain ⟨ih0, ih1, ih2, ih3⟩ := impl_PoolOk.mono_l k
  refine ⟨?_, ?_, ?_, ?_⟩
  · intro y0 y1 y2
    unfold impl_PoolOk.j0
    repeat' first
    | (with_reducible exact ih0 _ _ _)
    | (with_reducible exact ih1 _ _ _ _ _)
    | (with_reducible exact ih2 _ _ _)
    | (with_reducible exact ih3 _ _ _ _ _ _ _)
    | (with_reducible exact impl_StoreOk.mono _ _)
    | (with_reducible exact impl_VolOk.mono _ _ _)
    | (with_reducible exact impl_Vol_uses.mono _ _ _ _)
    | (with_reducible exact LeO.refl _)
    | (with_reducible exact LeO.none _)
    | (with_reducible refine LeO.ite ?_ ?_)
    | (with_reducible refine LeO.bind ?_ (fun _ => ?_))
    | exact ih0 _ _ _
    | exact ih1 _ _ _ _ _
    | exact ih2 _ _ _
    | exact ih3 _ _ _ _ _ _ _
    | exact impl_StoreOk.mono _ _
    | exact impl_VolOk.mono _ _ _
    | exact impl_Vol_uses.mono _ _ _ _
    | exact LeO.none _
    | refine LeO.ite ?_ ?_
    | refine LeO.bind ?_ (fun _ => ?_)
  · intro y0 y1 y2 y3 y4
    unfold impl_PoolOk.l0
    repeat' first
    | (with_reducible exact ih0 _ _ _)
    | (with_reducible exact ih1 _ _ _ _ _)
    | (with_reducible exact ih2 _ _ _)
    | (with_reducible exact ih3 _ _ _ _ _ _ _)
    | (with_reducible exact impl_StoreOk.mono _ _)
    | (with_reducible exact impl_VolOk.mono _ _ _)
    | (with_reducible exact impl_Vol_uses.mono _ _ _ _)
    | (with_reducible exact LeO.refl _)
    | (with_reducible exact LeO.none _)
    | (with_reducible refine LeO.ite ?_ ?_)
    | (with_reducible refine LeO.bind ?_ (fun _ => ?_))
    | exact ih0 _ _ _
    | exact ih1 _ _ _ _ _
    | exact ih2 _ _ _
    | exact ih3 _ _ _ _ _ _ _
    | exact impl_StoreOk.mono _ _
    | exact impl_VolOk.mono _ _ _
    | exact impl_Vol_uses.mono _ _ _ _
    | exact LeO.none _
    | refine LeO.ite ?_ ?_
    | refine LeO.bind ?_ (fun _ => ?_)
  · intro y0 y1 y2
    unfold impl_PoolOk.l1
    repeat' first
    | (with_reducible exact ih0 _ _ _)
    | (with_reducible exact ih1 _ _ _ _ _)
    | (with_reducible exact ih2 _ _ _)
    | (with_reducible exact ih3 _ _ _ _ _ _ _)
    | (with_reducible exact impl_StoreOk.mono _ _)
    | (with_reducible exact impl_VolOk.mono _ _ _)
    | (with_reducible exact impl_Vol_uses.mono _ _ _ _)
    | (with_reducible exact LeO.refl _)
    | (with_reducible exact LeO.none _)
    | (with_reducible refine LeO.ite ?_ ?_)
    | (with_reducible refine LeO.bind ?_ (fun _ => ?_))
    | exact ih0 _ _ _
    | exact ih1 _ _ _ _ _
    | exact ih2 _ _ _
    | exact ih3 _ _ _ _ _ _ _
    | exact impl_StoreOk.mono _ _
    | exact impl_VolOk.mono _ _ _
    | exact impl_Vol_uses.mono _ _ _ _
    | exact LeO.none _
    | refine LeO.ite ?_ ?_
    | refine LeO.bind ?_ (fun _ => ?_)
  intro y0 y1 y2 y3 y4 y5 y6
  unfold impl_PoolOk.l2
  repeat' first
  | (with_reducible exact ih0 _ _ _)
  | (with_reducible exact ih1 _ _ _ _ _)
  | (with_reducible exact ih2 _ _ _)
  | (with_reducible exact ih3 _ _ _ _ _ _ _)
  | (with_reducible exact impl_StoreOk.mono _ _)
  | (with_reducible exact impl_VolOk.mono _ _ _)
  | (with_reducible exact impl_Vol_uses.mono _ _ _ _)
  | (with_reducible exact LeO.refl _)
  | (with_reducible exact LeO.none _)
  | (with_reducible refine LeO.ite ?_ ?_)
  | (with_reducible refine LeO.bind ?_ (fun _ => ?_))
  | exact ih0 _ _ _
  | exact ih1 _ _ _ _ _
  | exact ih2 _ _ _
  | exact ih3 _ _ _ _ _ _ _
  | exact impl_StoreOk.mono _ _
  | exact impl_VolOk.mono _ _ _
  | exact impl_Vol_uses.mono _ _ _ _
  | exact LeO.none _
  | refine LeO.ite ?_ ?_
  | refine LeO.bind ?_ (fun _ => ?_)
theorem impl_PoolOk.mono : ∀ a0 a1 k, LeO (impl_PoolOk.f k a0 a1) (impl_PoolOk.f (k + 1) a0 a1) := by
 intro a0 a1 k
 obtain ⟨ih0, ih1, ih2, ih3⟩ := impl_PoolOk.mono_l k
 unfold impl_PoolOk.f
 repeat' first
  | (with_reducible exact ih0 _ _ _)
  | (with_reducible exact ih1 _ _ _ _ _)
  | (with_reducible exact ih2 _ _ _)
  | (with_reducible exact ih3 _ _ _ _ _ _ _)
  | (with_reducible exact impl_StoreOk.mono _ _)
  | (with_reducible exact impl_VolOk.mono _ _ _)
  | (with_reducible exact impl_Vol_uses.mono _ _ _ _)
  | (with_reducible exact LeO.refl _)
  | (with_reducible exact LeO.none _)
  | (with_reducible refine LeO.ite ?_ ?_)
  | (with_reducible refine LeO.bind ?_ (fun _ => ?_))
  | exact ih0 _ _ _
  | exact ih1 _ _ _ _ _
  | exact ih2 _ _ _
  | exact ih3 _ _ _ _ _ _ _
  | exact impl_StoreOk.mono _ _
  | exact impl_VolOk.mono _ _ _
  | exact impl_Vol_uses.mono _ _ _ _
  | exact LeO.none _
  | refine LeO.ite ?_ ?_
  | refine LeO.bind ?_ (fun _ => ?_)
def impl_PoolOk.T6 : Bool × List (List Nat × List Nat) := (true, [([], []), ([0], [0]), ([1], [1]), ([2, 1], [2]), ([3], [3]), ([4, 3], [3, 4]), ([5, 3, 3], [3, 5]), ([6], [6]), ([7, 6], [6, 7]), ([6], [6]), ([9, 6], [6, 9]), ([8, 10, 6], [6, 8, 10]), ([11, 6], [6, 11]), ([12, 6], [6, 12]), ([6], [6]), ([14, 6], [6, 14]), ([13, 15, 6], [6, 13, 15]), ([6, 16, 3], [3, 6, 16]), ([3, 17], [3, 17])])
def impl_PoolOk.B6 : List Nat := [0, 1, 3, 7, 15, 31, 63, 127, 255, 127, 639, 2047, 4095, 8191, 127, 16511, 65535, 131071, 262143]
theorem impl_PoolOk.tab6 : rtab .any (opsOf Try.f17 6) = impl_PoolOk.T6 := by kernel_rfl
theorem impl_PoolOk.bits6 : waitsOk impl_PoolOk.T6.2 impl_PoolOk.B6 = true := by kernel_rfl
set_option maxHeartbeats 8000000 in
set_option maxRecDepth 100000 in
theorem impl_PoolOk.calls (k : Nat) (A0_0 : Option Addr) (c0_0 : Nat) (l0_0 : List (S55)) (A0_1 : Option Addr) (c0_1 : Nat) (l0_1 : List (S38)) (r : Bool) (w : World) (hr0_0 : Kd.C k55 w A0_0 l0_0.length l0_0) (hc0_0 : l0_0.length ≤ c0_0) (hr0_1 : Kd.C k38 w A0_1 l0_1.length l0_1) (hc0_1 : l0_1.length ≤ c0_1) (h : impl_PoolOk.f k l0_0 l0_1 = some r) :
 Calls Try.prog 17 #[.agg #[.slice A0_0 l0_0.length c0_0, .slice A0_1 l0_1.length c0_1]] w fun e w' => e = .returned (.bool r) ∧ Below w.heap.size w w' := by
 have hu31 := Try.underlying31
 have hu38 := Try.underlying38
 have HR0_0 := am hr0_0
 have HC0_0 := am hc0_0
 clear hr0_0 hc0_0
 have HR0_1 := am hr0_1
 have HC0_1 := am hc0_1
 clear hr0_1 hc0_1
 have HB := am (Below.refl w.heap.size w)
 have H : ((impl_StoreOk.f k l0_0).bind fun t139 => (if t139 = true then (impl_PoolOk.j0 k (decide ((l0_1.length : Int) > 4)) l0_0 l0_1) else (impl_PoolOk.j0 k true l0_0 l0_1))) = some r := h
 clear h
 have HC2 := am H
 clear H
 go_enter Try.func17, Try.ntmps17
 go_upto_region 1 with (first | ((with_reducible refine gate_dst (N := 1) rfl ?_); (try (refine gate_guard (by rfl) ?_; dsimp only)); refine bx 31 #[.slice A0_0 l0_0.length c0_0, .slice A0_1 l0_1.length c0_1] ?_; intro gb138 hg w3 hbox hb; have BK138 := am (hbox); have GW138 := am (zn hg (zb HB)); have GE138 := am (zn hg (zb HB)); replace HB := am (below_step (zb HB) hb); clear hb hbox hg))
 (try simp only [Act.put, List.setIfInBounds_toArray, List.set_cons_zero, List.set_cons_succ])
 go_cut [18] (fun v18 wc => ∃ (kq : Nat) (x18_1 : Bool), v18 = .bool x18_1 ∧ Aside0 (impl_PoolOk.j0 kq x18_1 l0_0 l0_1 = some r) ∧ Aside0 (kq ≤ k) ∧ Aside0 (wc.heap[gb138]? = some (.cells #[(.slice A0_0 l0_0.length c0_0), (.slice A0_1 l0_1.length c0_1)] 31 (0, 0))) ∧ Aside0 (Below w.heap.size w wc))
 case first =>
  have H := HC2.out
  clear HC2
  replace H := obs H
  obtain ⟨t139, A40, H⟩ := H
  replace H : (if t139 = true then (impl_PoolOk.j0 k (decide ((l0_1.length : Int) > 4)) l0_0 l0_1) else (impl_PoolOk.j0 k true l0_0 l0_1)) = some r := H
  have A4 := am A40
  clear A40
  by_cases c5 : t139 = true
  · subst c5
    have H1 : (impl_PoolOk.j0 k (decide ((l0_1.length : Int) > 4)) l0_0 l0_1) = some r := by rw [if_pos rfl] at H; exact H
    clear H
    have H := H1
    clear H1
    have H' := am H
    clear H
    have hcz6_0 := ce0 BK138
    have hcz6_1 := ce1 BK138
    have hfz6_0 := bfz BK138 0
    have hfz6_1 := bfz BK138 1
    go_wp2_with (first | ((with_reducible refine gate_callee (f := 45) rfl ?_); refine gl Try.func45 11 #[.slice A0_0 l0_0.length c0_0] rfl rfl rfl ?_; (with_reducible refine (impl_StoreOk.calls k _ _ l0_0 true _ ?side1 ?side2 A4.out).mono ?_); (case side1 => exact zc (Kd.C_below HR0_0.out HB.out)); (case side2 => exact HC0_0.out); rintro e w7 ⟨rfl, hb⟩; refine ⟨_, rfl, ?_⟩; replace BK138 := am (blk_below (zk BK138) hb); replace HB := am (below_step (zb HB) hb); (try clear hb); (try clear hb2); (try clear hk); (try clear hi); have hcz8_0 := ce0 BK138; have hcz8_1 := ce1 BK138; have hfz8_0 := bfz BK138 0; have hfz8_1 := bfz BK138 1))
    go_meet
    case rel => exact ⟨_, (decide ((l0_1.length : Int) > 4)), ze, H', ⟨by first | omega | exact Nat.le_refl _⟩, ⟨zk BK138⟩, ⟨zb HB⟩⟩
  replace c5 := Bool.eq_false_iff.mpr c5
  subst c5
  have H1 : (impl_PoolOk.j0 k true l0_0 l0_1) = some r := by rw [if_neg (show ¬ (false = true) by decide)] at H; exact H
  clear H
  have H := H1
  clear H1
  have H' := am H
  clear H
  have hcz9_0 := ce0 BK138
  have hcz9_1 := ce1 BK138
  have hfz9_0 := bfz BK138 0
  have hfz9_1 := bfz BK138 1
  go_wp2_with (first | ((with_reducible refine gate_callee (f := 45) rfl ?_); refine gl Try.func45 11 #[.slice A0_0 l0_0.length c0_0] rfl rfl rfl ?_; (with_reducible refine (impl_StoreOk.calls k _ _ l0_0 false _ ?side1 ?side2 A4.out).mono ?_); (case side1 => exact zc (Kd.C_below HR0_0.out HB.out)); (case side2 => exact HC0_0.out); rintro e w10 ⟨rfl, hb⟩; refine ⟨_, rfl, ?_⟩; replace BK138 := am (blk_below (zk BK138) hb); replace HB := am (below_step (zb HB) hb); (try clear hb); (try clear hb2); (try clear hk); (try clear hi)))
  go_meet
  case rel => exact ⟨_, (true), ze, H', ⟨by first | omega | exact Nat.le_refl _⟩, ⟨zk BK138⟩, ⟨zb HB⟩⟩
 clear HC2
 try clear c1
 try clear p2
 try clear c4
 try clear c5
 try clear hcz6_0
 try clear hcz6_1
 try clear hcz8_0
 try clear hcz8_1
 try clear hcz9_0
 try clear hcz9_1
 try clear hfz6_0
 try clear hfz6_1
 try clear hfz8_0
 try clear hfz8_1
 try clear hfz9_0
 try clear hfz9_1
 obtain ⟨kq, x18_1, rfl, HA, HJ1, BK138, HB⟩ := hcut
 cases kq with
 | zero => exact absurd HA.out (by simp [impl_PoolOk.j0])
 | succ kj1 =>
  have H := HA.out
  clear HA
  simp only [impl_PoolOk.j0] at H
  by_cases c11 : x18_1 = true
  · subst c11
    have H1 : (some false) = some r := by rw [if_pos rfl] at H; exact H
    clear H
    have H := H1
    clear H1
    obtain rfl := Option.some.inj H
    go_wp2
    go_ret
    exact ⟨zv, (zb HB)⟩
  replace c11 := Bool.eq_false_iff.mpr c11
  subst c11
  have H1 : (impl_PoolOk.l0 kj1 l0_1 (l0_1.length : Int) 0 l0_0 l0_1) = some r := by rw [if_neg (show ¬ (false = true) by decide)] at H; exact H
  clear H
  have H := H1
  clear H1
  have H' := am H
  clear H
  have hcz12_0 := ce0 BK138
  have hcz12_1 := ce1 BK138
  have hfz12_0 := bfz BK138 0
  have hfz12_1 := bfz BK138 1
  go_wp2
  go_loopg [22] kj1 (fun kq v22 w' => ∃ (x22_2 : Int), v22 = .int .i64 x22_2 ∧ Aside0 (impl_PoolOk.l0 kq l0_1 (l0_1.length : Int) x22_2 l0_0 l0_1 = some r) ∧ Aside0 (kq ≤ kj1) ∧ Aside0 (w'.heap[gb138]? = some (.cells #[(.slice A0_0 l0_0.length c0_0), (.slice A0_1 l0_1.length c0_1)] 31 (0, 0))) ∧ Aside0 (Below w.heap.size w w'))
  case atStart => exact ⟨(0), ze, H', ⟨Nat.le_refl _⟩, ⟨zk BK138⟩, ⟨zb HB⟩⟩
  case round =>
   clear H'
   try clear c1
   try clear p2
   try clear c4
   try clear c5
   try clear c11
   try clear hcz12_0
   try clear hcz12_1
   try clear hcz6_0
   try clear hcz6_1
   try clear hcz8_0
   try clear hcz8_1
   try clear hcz9_0
   try clear hcz9_1
   try clear hfz12_0
   try clear hfz12_1
   try clear hfz6_0
   try clear hfz6_1
   try clear hfz8_0
   try clear hfz8_1
   try clear hfz9_0
   try clear hfz9_1
   try clear p2
   obtain ⟨x22_2, rfl, HA, HK2, BK138, HB⟩ := hrel
   cases gk with
   | zero => exact absurd HA.out (by simp [impl_PoolOk.l0])
   | succ k2 =>
    have H := HA.out
    clear HA
    simp only [impl_PoolOk.l0] at H
    by_cases c13 : x22_2 < (l0_1.length : Int)
    rotate_left
    · rw [if_neg c13] at H
      have c13b0 : decide (x22_2 < (l0_1.length : Int)) = false := decide_eq_false c13
      clear c13
      have H' := am H
      clear H
      go_wp2
      go_loopg [5] k2 (fun kq v5 w' => ∃ (x5_3 : Int), v5 = .int .i64 x5_3 ∧ Aside0 (impl_PoolOk.l1 kq x5_3 l0_0 l0_1 = some r) ∧ Aside0 (kq ≤ k2) ∧ Aside0 (w'.heap[gb138]? = some (.cells #[(.slice A0_0 l0_0.length c0_0), (.slice A0_1 l0_1.length c0_1)] 31 (0, 0))) ∧ Aside0 (Below w.heap.size w w'))
      case atStart => exact ⟨(1), ze, H', ⟨Nat.le_refl _⟩, ⟨zk BK138⟩, ⟨zb HB⟩⟩
      case round =>
       clear H'
       try clear c1
       try clear p1
       try clear q1
       try clear hx1
       try clear c2
       try clear p2
       try clear c3
       try clear c4
       try clear p6
       try clear c13
       try clear c13b0
       try clear c14
       try clear p14
       try clear q14
       try clear hx14
       try clear c15
       try clear c17
       try clear c18
       try clear c18b0
       try clear c20
       try clear c21
       try clear c22
       try clear c22b0
       try clear c30
       try clear c36
       try clear c42
       try clear hcz31_0
       try clear hcz31_1
       try clear hcz37_0
       try clear hcz37_1
       try clear hcz43_0
       try clear hcz43_1
       try clear hfz31_0
       try clear hfz31_1
       try clear hfz37_0
       try clear hfz37_1
       try clear hfz43_0
       try clear hfz43_1
       try clear hx140_0
       try clear hx140_1
       try clear hx143_0
       try clear hx143_1
       try clear p140
       try clear p143
       try clear q140
       try clear q143
       obtain ⟨x5_3, rfl, HA, HK3, BK138, HB⟩ := hrel
       cases gk with
       | zero => exact absurd HA.out (by simp [impl_PoolOk.l1])
       | succ k3 =>
        have H := HA.out
        clear HA
        simp only [impl_PoolOk.l1] at H
        by_cases c47 : x5_3 ≤ 8
        rotate_left
        · rw [if_neg c47] at H
          have c47b0 : decide (x5_3 ≤ 8) = false := decide_eq_false c47
          clear c47
          obtain rfl := Option.some.inj H
          go_wp2
          go_ret
          exact ⟨zv, (zb HB)⟩
        rw [if_pos c47] at H
        have c47b0 : decide (x5_3 ≤ 8) = true := decide_eq_true c47
        clear c47
        have H' := am H
        clear H
        have hcz48_0 := ce0 BK138
        have hcz48_1 := ce1 BK138
        have hfz48_0 := bfz BK138 0
        have hfz48_1 := bfz BK138 1
        go_wp2
        go_loopg [6, 54] k3 (fun kq v6 v54 w' => ∃ (x6_4 : Int) (x54_4 : Int), v6 = .int .i64 x6_4 ∧ v54 = .int .i64 x54_4 ∧ Aside0 (impl_PoolOk.l2 kq x5_3 x6_4 l0_1 (l0_1.length : Int) x54_4 l0_0 l0_1 = some r) ∧ Aside0 (kq ≤ k3) ∧ Aside0 (w'.heap[gb138]? = some (.cells #[(.slice A0_0 l0_0.length c0_0), (.slice A0_1 l0_1.length c0_1)] 31 (0, 0))) ∧ Aside0 (Below w.heap.size w w'))
        case atStart => exact ⟨(0), (0), ze, ze, H', ⟨Nat.le_refl _⟩, ⟨zk BK138⟩, ⟨zb HB⟩⟩
        case round =>
         clear H'
         try clear c1
         try clear p1
         try clear q1
         try clear hx1
         try clear c2
         try clear p2
         try clear c3
         try clear c4
         try clear p6
         try clear c13
         try clear c13b0
         try clear c14
         try clear p14
         try clear q14
         try clear hx14
         try clear c15
         try clear c17
         try clear c18
         try clear c18b0
         try clear c20
         try clear c21
         try clear c22
         try clear c22b0
         try clear c30
         try clear c36
         try clear c42
         try clear c47
         try clear c47b0
         try clear hcz31_0
         try clear hcz31_1
         try clear hcz37_0
         try clear hcz37_1
         try clear hcz43_0
         try clear hcz43_1
         try clear hcz48_0
         try clear hcz48_1
         try clear hfz31_0
         try clear hfz31_1
         try clear hfz37_0
         try clear hfz37_1
         try clear hfz43_0
         try clear hfz43_1
         try clear hfz48_0
         try clear hfz48_1
         try clear hx140_0
         try clear hx140_1
         try clear hx143_0
         try clear hx143_1
         try clear p1
         try clear p14
         try clear p140
         try clear p143
         try clear p2
         try clear p6
         try clear q1
         try clear q14
         try clear q140
         try clear q143
         obtain ⟨x6_4, x54_4, rfl, rfl, HA, HK4, BK138, HB⟩ := hrel
         cases gk with
         | zero => exact absurd HA.out (by simp [impl_PoolOk.l2])
         | succ k4 =>
          have H := HA.out
          clear HA
          simp only [impl_PoolOk.l2] at H
          by_cases c49 : x54_4 < (l0_1.length : Int)
          · rw [if_pos c49] at H
            have c49b0 : decide (x54_4 < (l0_1.length : Int)) = true := decide_eq_true c49
            clear c49
            by_cases c50 : 0 ≤ x54_4
            rotate_left
            · rw [if_neg c50] at H
              exact absurd H (by simp)
            rw [if_pos c50] at H
            have c50b0 : decide (0 ≤ x54_4) = true := decide_eq_true c50
            clear c50
            by_cases c51 : x54_4 < (l0_1.length : Int)
            rotate_left
            · rw [if_neg c51] at H
              exact absurd H (by simp)
            rw [if_pos c51] at H
            have c51b0 : decide (x54_4 < (l0_1.length : Int)) = true := decide_eq_true c51
            clear c51
            replace H := obs H
            obtain ⟨t146, A520, H⟩ := H
            replace H : (impl_PoolOk.l2 k4 x5_3 (wrap64 (x6_4 + t146)) l0_1 (l0_1.length : Int) (wrap64 (x54_4 + 1)) l0_0 l0_1) = some r := H
            have A52 := am A520
            clear A520
            have H' := am H
            clear H
            have p144 : 0 ≤ (x54_4 : Int) := of_decide_eq_true zl
            have q144 : x54_4 < (l0_1.length : Int) := of_decide_eq_true zl
            obtain ⟨ad144, A144_1, c144_1, e144, hx144_0, hx144_1, hl144_1, hi144_1⟩ := at_T38 HR0_1.out x54_4 p144 q144
            cases e144
            replace hx144_0 := hcx HB hx144_0
            replace hx144_1 := hcx HB hx144_1
            have HR144_1 := am hi144_1
            have HC144_1 := am hl144_1
            clear hi144_1 hl144_1
            replace p144 := eq_true p144
            replace q144 := eq_true q144
            go_wp2_with (first | ((with_reducible refine gate_dst (N := 8) rfl ?_); (try (refine gate_guard (by rfl) ?_; dsimp only)); refine bx 38 #[.string (⟨#[]⟩ : ByteArray), .slice none 0 0] ?_; intro gb145 hg w53 hbox hb; have BK145 := am (hbox); have GW145 := am (zn hg (zb HB)); have GE145 := am (zn hg (zb HB)); replace HB := am (below_step (zb HB) hb); have NB138_145 := am (zx hg (zk BK138)); have NB145_138 := am (zy hg (zk BK138)); replace BK138 := am (blk_below (zk BK138) hb); clear hb hbox hg; have hnb54 := NB145_138.out; have hnc54 := NB138_145.out; have hcz55_0 := ce0 BK145; have hcz55_1 := ce1 BK145; have hfz55_0 := bfz BK145 0; have hfz55_1 := bfz BK145 1) | ((with_reducible refine gate_callee (f := 46) rfl ?_); refine gl Try.func46 61 #[.agg #[.string ((rd_T38 l0_1 x54_4).f0), .slice A144_1 ((rd_T38 l0_1 x54_4).f1).length c144_1], .int .i64 x5_3] rfl rfl rfl ?_; (with_reducible refine (impl_Vol_uses.calls k4 ((rd_T38 l0_1 x54_4).f0) _ _ ((rd_T38 l0_1 x54_4).f1) x5_3 t146 _ ?side1 ?side2 A52.out).mono ?_); (case side1 => exact Kd.C_below HR144_1.out (zb HB)); (case side2 => exact HC144_1.out); rintro e w56 ⟨rfl, hb⟩; refine ⟨_, rfl, ?_⟩; replace BK138 := am (blk_below (zk BK138) hb); replace BK145 := am (blk_below (g := gb145) (o := .cells #[.string ((rd_T38 l0_1 x54_4).f0), .slice A144_1 ((rd_T38 l0_1 x54_4).f1).length c144_1] 38 (0, 0)) (zp BK145) hb); replace HB := am (below_step (zb HB) hb); (try clear hb); (try clear hb2); (try clear hk); (try clear hi)))
            go_roundg k4
            case measure => have := HJ1.out; have := HK2.out; have := HK3.out; have := HK4.out; omega
            case rel => exact ⟨(wrap64 (x6_4 + t146)), (wrap64 (x54_4 + 1)), ze, ze, H', ⟨by have := HJ1.out; have := HK2.out; have := HK3.out; have := HK4.out; omega⟩, ⟨zk BK138⟩, ⟨zb HB⟩⟩
          rw [if_neg c49] at H
          have c49b0 : decide (x54_4 < (l0_1.length : Int)) = false := decide_eq_false c49
          clear c49
          obtain ⟨ji57, hji57⟩ : ∃ j_ : Int, (wrap64 (x5_3 - 1)) = j_ := ⟨_, rfl⟩
          replace H : (if 0 ≤ (ji57) then (if (ji57) < (l0_0.length : Int) then (if x6_4 = ((rd_T55 l0_0 (ji57)).f1) then (impl_PoolOk.l1 k4 (wrap64 (x5_3 + 1)) l0_0 l0_1) else (some false)) else (none)) else (none)) = some r := by first | (rw [hji57] at H; exact H) | (simp only [hji57] at H ⊢; exact H)
          have hji57w : (IntKind.i64.wrap (x5_3 - 1)) = ji57 := (i64_w _).trans hji57
          by_cases c58 : 0 ≤ (ji57)
          rotate_left
          · rw [if_neg c58] at H
            exact absurd H (by simp)
          rw [if_pos c58] at H
          have c58b0 : decide (0 ≤ (ji57)) = true := decide_eq_true c58
          clear c58
          by_cases c59 : (ji57) < (l0_0.length : Int)
          rotate_left
          · rw [if_neg c59] at H
            exact absurd H (by simp)
          rw [if_pos c59] at H
          have c59b0 : decide ((ji57) < (l0_0.length : Int)) = true := decide_eq_true c59
          clear c59
          by_cases c60 : x6_4 = ((rd_T55 l0_0 (ji57)).f1)
          rotate_left
          · rw [if_neg c60] at H
            have c60b0 : (x6_4 == ((rd_T55 l0_0 (ji57)).f1)) = false := beq_eq_false_iff_ne.mpr c60
            have c60b1 : (x6_4 != ((rd_T55 l0_0 (ji57)).f1)) = true := bne_iff_ne.mpr c60
            obtain rfl := Option.some.inj H
            have hcz62_0 := ce0 BK138
            have hcz62_1 := ce1 BK138
            have hfz62_0 := bfz BK138 0
            have hfz62_1 := bfz BK138 1
            have p147 : 0 ≤ ((ji57) : Int) := of_decide_eq_true zl
            have q147 : (ji57) < (l0_0.length : Int) := of_decide_eq_true zl
            obtain ⟨ad147, e147, hx147_0, hx147_1⟩ := at_T55 HR0_0.out (ji57) p147 q147
            cases e147
            replace hx147_0 := hcx HB hx147_0
            replace hx147_1 := hcx HB hx147_1
            replace p147 := eq_true p147
            replace q147 := eq_true q147
            go_wp2
            go_ret
            exact ⟨by first | rfl | (simp [errW_none, errW_some] <;> rfl) | (simp only [← hji57]; first | rfl | (simp [errW_none, errW_some] <;> rfl)) | (simp [*, errW_none, errW_some] <;> rfl), (zb HB)⟩
          rw [if_pos c60] at H
          have c60b0 : (x6_4 == ((rd_T55 l0_0 (ji57)).f1)) = true := beq_iff_eq.mpr c60
          have c60b1 : (x6_4 != ((rd_T55 l0_0 (ji57)).f1)) = false := bne_eq_false_iff_eq.mpr c60
          clear c60
          have H' := am H
          clear H
          have hcz61_0 := ce0 BK138
          have hcz61_1 := ce1 BK138
          have hfz61_0 := bfz BK138 0
          have hfz61_1 := bfz BK138 1
          have p147 : 0 ≤ ((ji57) : Int) := of_decide_eq_true zl
          have q147 : (ji57) < (l0_0.length : Int) := of_decide_eq_true zl
          obtain ⟨ad147, e147, hx147_0, hx147_1⟩ := at_T55 HR0_0.out (ji57) p147 q147
          cases e147
          replace hx147_0 := hcx HB hx147_0
          replace hx147_1 := hcx HB hx147_1
          replace p147 := eq_true p147
          replace q147 := eq_true q147
          go_wp2
          go_roundg k4
          case measure => have := HJ1.out; have := HK2.out; have := HK3.out; have := HK4.out; omega
          case rel => exact ⟨(wrap64 (x5_3 + 1)), ze, H', ⟨by have := HJ1.out; have := HK2.out; have := HK3.out; have := HK4.out; omega⟩, ⟨zk BK138⟩, ⟨zb HB⟩⟩
    rw [if_pos c13] at H
    have c13b0 : decide (x22_2 < (l0_1.length : Int)) = true := decide_eq_true c13
    clear c13
    by_cases c14 : 0 ≤ x22_2
    rotate_left
    · rw [if_neg c14] at H
      exact absurd H (by simp)
    rw [if_pos c14] at H
    have c14b0 : decide (0 ≤ x22_2) = true := decide_eq_true c14
    clear c14
    by_cases c15 : x22_2 < (l0_1.length : Int)
    rotate_left
    · rw [if_neg c15] at H
      exact absurd H (by simp)
    rw [if_pos c15] at H
    have c15b0 : decide (x22_2 < (l0_1.length : Int)) = true := decide_eq_true c15
    clear c15
    replace H := obs H
    obtain ⟨t142, A160, H⟩ := H
    replace H : (if t142 = true then (if x22_2 > 0 then (if 0 ≤ (wrap64 (x22_2 - 1)) then (if (wrap64 (x22_2 - 1)) < (l0_1.length : Int) then (if ((Op.bytesLess (((rd_T38 l0_1 (wrap64 (x22_2 - 1))).f0).toList) (((rd_T38 l0_1 x22_2).f0).toList)) = true) then (impl_PoolOk.l0 k2 l0_1 (l0_1.length : Int) (wrap64 (x22_2 + 1)) l0_0 l0_1) else (some false)) else (none)) else (none)) else (impl_PoolOk.l0 k2 l0_1 (l0_1.length : Int) (wrap64 (x22_2 + 1)) l0_0 l0_1)) else (some false)) = some r := H
    have A16 := am A160
    clear A160
    by_cases c17 : t142 = true
    rotate_left
    · replace c17 := Bool.eq_false_iff.mpr c17
      subst c17
      have H1 : (some false) = some r := by rw [if_neg (show ¬ (false = true) by decide)] at H; exact H
      clear H
      have H := H1
      clear H1
      obtain rfl := Option.some.inj H
      have p140 : 0 ≤ (x22_2 : Int) := of_decide_eq_true zl
      have q140 : x22_2 < (l0_1.length : Int) := of_decide_eq_true zl
      obtain ⟨ad140, A140_1, c140_1, e140, hx140_0, hx140_1, hl140_1, hi140_1⟩ := at_T38 HR0_1.out x22_2 p140 q140
      cases e140
      replace hx140_0 := hcx HB hx140_0
      replace hx140_1 := hcx HB hx140_1
      have HR140_1 := am hi140_1
      have HC140_1 := am hl140_1
      clear hi140_1 hl140_1
      replace p140 := eq_true p140
      replace q140 := eq_true q140
      try go_wp2_with (first | ((with_reducible refine gate_dst (N := 4) rfl ?_); (try (refine gate_guard (by rfl) ?_; dsimp only)); refine bx 38 #[.string (⟨#[]⟩ : ByteArray), .slice none 0 0] ?_; intro gb141 hg w41 hbox hb; have BK141 := am (hbox); have GW141 := am (zn hg (zb HB)); have GE141 := am (zn hg (zb HB)); replace HB := am (below_step (zb HB) hb); have NB138_141 := am (zx hg (zk BK138)); have NB141_138 := am (zy hg (zk BK138)); replace BK138 := am (blk_below (zk BK138) hb); clear hb hbox hg; have hnb42 := NB141_138.out; have hnc42 := NB138_141.out; have hcz43_0 := ce0 BK141; have hcz43_1 := ce1 BK141; have hfz43_0 := bfz BK141 0; have hfz43_1 := bfz BK141 1))
      have n0_ : Aside0 (((w41.setCell ⟨gb141, 0, none⟩ (.string ((rd_T38 l0_1 x22_2).f0))).setCell ⟨gb141, 1, none⟩ (.slice A140_1 ((rd_T38 l0_1 x22_2).f1).length c140_1)).heap[gb138]? = some (.cells #[.slice A0_0 l0_0.length c0_0, .slice (some ad140) l0_1.length c0_1] 31 (0, 0))) := ⟨zk BK138⟩
      have n1_ : Aside0 (((w41.setCell ⟨gb141, 0, none⟩ (.string ((rd_T38 l0_1 x22_2).f0))).setCell ⟨gb141, 1, none⟩ (.slice A140_1 ((rd_T38 l0_1 x22_2).f1).length c140_1)).heap[gb141]? = some (.cells #[.string ((rd_T38 l0_1 x22_2).f0), .slice A140_1 ((rd_T38 l0_1 x22_2).f1).length c140_1] 38 (0, 0))) := ⟨zp BK141⟩
      have n2_ : Aside0 (Below w.heap.size w ((w41.setCell ⟨gb141, 0, none⟩ (.string ((rd_T38 l0_1 x22_2).f0))).setCell ⟨gb141, 1, none⟩ (.slice A140_1 ((rd_T38 l0_1 x22_2).f1).length c140_1))) := ⟨zb HB⟩
      (try clear BK138)
      (try clear BK141)
      (try clear HB)
      generalize ((w41.setCell ⟨gb141, 0, none⟩ (.string ((rd_T38 l0_1 x22_2).f0))).setCell ⟨gb141, 1, none⟩ (.slice A140_1 ((rd_T38 l0_1 x22_2).f1).length c140_1)) = w44 at n0_ n1_ n2_ ⊢
      have BK138 := n0_
      have BK141 := n1_
      have HB := n2_
      clear n0_ n1_ n2_
      replace BK138 := am (blk_drew BK138.out)
      replace BK141 := am (blk_drew BK141.out)
      replace HB := am (below_drew1 HB.out)
      refine start_ (n := 19) (S := fun w' => w'.cell? ⟨gb141, 0, none⟩ = some (.string ((rd_T38 l0_1 x22_2).f0)) ∧ w'.cell? ⟨gb141, 1, none⟩ = some (.slice A140_1 ((rd_T38 l0_1 x22_2).f1).length c140_1)) (ds := []) (bs 19 0) (by kernel_rfl) rfl rfl ⟨ce0 BK141, ce1 BK141⟩ (fun hHeld => ?_); refine with_tabW impl_PoolOk.tab6 impl_PoolOk.bits6 (fun HT_ HW_ => ?_)
      generalize w44.drew = w45 at BK138 BK141 HB hHeld ⊢
      refine ta2 0 27 19 1 rfl rfl hHeld ?_
      refine oz 1 19 3 rfl rfl (fun K hK => ?_)
      refine gs Try.func20 #[.agg #[.string ((rd_T38 l0_1 x22_2).f0), .slice A140_1 ((rd_T38 l0_1 x22_2).f1).length c140_1]] rfl rfl ?_
      with_reducible refine (impl_VolOk.calls k2 ((rd_T38 l0_1 x22_2).f0) _ _ ((rd_T38 l0_1 x22_2).f1) false _ ?side1 ?side2 A16.out).mono ?_
      (case side1 => exact zc (Kd.C_below HR140_1.out HB.out))
      (case side2 => exact HC140_1.out)
      rintro e w46 ⟨rfl, hb⟩
      refine ⟨_, rfl, ?_⟩
      replace BK138 := am (blk_below (zk BK138) hb)
      replace BK141 := am (blk_below (zk BK141) hb)
      replace HB := am (below_step (zb HB) hb)
      (try clear hb)
      (try clear hb2)
      (try clear hk)
      (try clear hi)
      refine hK.out _ _ ⟨ce0 BK141, ce1 BK141⟩ (fun hHeld => ?_)
      clear hK K
      refine norm_ (a' := ?_) ?_ ?_
      rotate_left
      · show Act.put _ (some 28) _ = _
        simp only [Act.put, List.setIfInBounds_toArray, List.set_cons_zero, List.set_cons_succ, i64_w, i32_w]
        rfl
      refine pu 2 29 19 7 rfl rfl ?_
      refine pu 3 30 19 15 rfl rfl ?_
      refine po 4 31 19 31 rfl rfl ?_
      refine po 5 32 19 63 rfl rfl ?_
      refine po 6 33 19 127 rfl rfl ?_
      refine po 7 34 19 255 rfl rfl ?_
      refine po 8 35 19 511 rfl rfl ?_
      refine po 9 36 19 1023 rfl rfl ?_
      refine po 10 37 19 2047 rfl rfl ?_
      refine po 11 38 19 4095 rfl rfl ?_
      refine po 12 39 19 8191 rfl rfl ?_
      refine po 13 40 19 16383 rfl rfl ?_
      refine po 14 41 19 32767 rfl rfl ?_
      refine po 15 42 19 65535 rfl rfl ?_
      refine po 16 43 19 131071 rfl rfl ?_
      refine po 17 44 19 262143 rfl rfl ?_
      refine pu 18 45 19 524287 rfl rfl ?_
      refine done_ (done_of HT_.out (by kernel_rfl)) ?_
      try go_wp2
      go_ret
      exact ⟨zv, (zb HB)⟩
    subst c17
    have H1 : (if x22_2 > 0 then (if 0 ≤ (wrap64 (x22_2 - 1)) then (if (wrap64 (x22_2 - 1)) < (l0_1.length : Int) then (if ((Op.bytesLess (((rd_T38 l0_1 (wrap64 (x22_2 - 1))).f0).toList) (((rd_T38 l0_1 x22_2).f0).toList)) = true) then (impl_PoolOk.l0 k2 l0_1 (l0_1.length : Int) (wrap64 (x22_2 + 1)) l0_0 l0_1) else (some false)) else (none)) else (none)) else (impl_PoolOk.l0 k2 l0_1 (l0_1.length : Int) (wrap64 (x22_2 + 1)) l0_0 l0_1)) = some r := by rw [if_pos rfl] at H; exact H
    clear H
    have H := H1
    clear H1
    by_cases c18 : x22_2 > 0
    rotate_left
    · rw [if_neg c18] at H
      have c18b0 : decide (0 < x22_2) = false := decide_eq_false c18
      clear c18
      have H' := am H
      clear H
      have p140 : 0 ≤ (x22_2 : Int) := of_decide_eq_true zl
      have q140 : x22_2 < (l0_1.length : Int) := of_decide_eq_true zl
      obtain ⟨ad140, A140_1, c140_1, e140, hx140_0, hx140_1, hl140_1, hi140_1⟩ := at_T38 HR0_1.out x22_2 p140 q140
      cases e140
      replace hx140_0 := hcx HB hx140_0
      replace hx140_1 := hcx HB hx140_1
      have HR140_1 := am hi140_1
      have HC140_1 := am hl140_1
      clear hi140_1 hl140_1
      replace p140 := eq_true p140
      replace q140 := eq_true q140
      try go_wp2_with (first | ((with_reducible refine gate_dst (N := 4) rfl ?_); (try (refine gate_guard (by rfl) ?_; dsimp only)); refine bx 38 #[.string (⟨#[]⟩ : ByteArray), .slice none 0 0] ?_; intro gb141 hg w35 hbox hb; have BK141 := am (hbox); have GW141 := am (zn hg (zb HB)); have GE141 := am (zn hg (zb HB)); replace HB := am (below_step (zb HB) hb); have NB138_141 := am (zx hg (zk BK138)); have NB141_138 := am (zy hg (zk BK138)); replace BK138 := am (blk_below (zk BK138) hb); clear hb hbox hg; have hnb36 := NB141_138.out; have hnc36 := NB138_141.out; have hcz37_0 := ce0 BK141; have hcz37_1 := ce1 BK141; have hfz37_0 := bfz BK141 0; have hfz37_1 := bfz BK141 1))
      have n0_ : Aside0 (((w35.setCell ⟨gb141, 0, none⟩ (.string ((rd_T38 l0_1 x22_2).f0))).setCell ⟨gb141, 1, none⟩ (.slice A140_1 ((rd_T38 l0_1 x22_2).f1).length c140_1)).heap[gb138]? = some (.cells #[.slice A0_0 l0_0.length c0_0, .slice (some ad140) l0_1.length c0_1] 31 (0, 0))) := ⟨zk BK138⟩
      have n1_ : Aside0 (((w35.setCell ⟨gb141, 0, none⟩ (.string ((rd_T38 l0_1 x22_2).f0))).setCell ⟨gb141, 1, none⟩ (.slice A140_1 ((rd_T38 l0_1 x22_2).f1).length c140_1)).heap[gb141]? = some (.cells #[.string ((rd_T38 l0_1 x22_2).f0), .slice A140_1 ((rd_T38 l0_1 x22_2).f1).length c140_1] 38 (0, 0))) := ⟨zp BK141⟩
      have n2_ : Aside0 (Below w.heap.size w ((w35.setCell ⟨gb141, 0, none⟩ (.string ((rd_T38 l0_1 x22_2).f0))).setCell ⟨gb141, 1, none⟩ (.slice A140_1 ((rd_T38 l0_1 x22_2).f1).length c140_1))) := ⟨zb HB⟩
      (try clear BK138)
      (try clear BK141)
      (try clear HB)
      generalize ((w35.setCell ⟨gb141, 0, none⟩ (.string ((rd_T38 l0_1 x22_2).f0))).setCell ⟨gb141, 1, none⟩ (.slice A140_1 ((rd_T38 l0_1 x22_2).f1).length c140_1)) = w38 at n0_ n1_ n2_ ⊢
      have BK138 := n0_
      have BK141 := n1_
      have HB := n2_
      clear n0_ n1_ n2_
      replace BK138 := am (blk_drew BK138.out)
      replace BK141 := am (blk_drew BK141.out)
      replace HB := am (below_drew1 HB.out)
      refine start_ (n := 19) (S := fun w' => w'.cell? ⟨gb141, 0, none⟩ = some (.string ((rd_T38 l0_1 x22_2).f0)) ∧ w'.cell? ⟨gb141, 1, none⟩ = some (.slice A140_1 ((rd_T38 l0_1 x22_2).f1).length c140_1)) (ds := []) (bs 19 0) (by kernel_rfl) rfl rfl ⟨ce0 BK141, ce1 BK141⟩ (fun hHeld => ?_); refine with_tabW impl_PoolOk.tab6 impl_PoolOk.bits6 (fun HT_ HW_ => ?_)
      generalize w38.drew = w39 at BK138 BK141 HB hHeld ⊢
      refine ta2 0 27 19 1 rfl rfl hHeld ?_
      refine oz 1 19 3 rfl rfl (fun K hK => ?_)
      refine gs Try.func20 #[.agg #[.string ((rd_T38 l0_1 x22_2).f0), .slice A140_1 ((rd_T38 l0_1 x22_2).f1).length c140_1]] rfl rfl ?_
      with_reducible refine (impl_VolOk.calls k2 ((rd_T38 l0_1 x22_2).f0) _ _ ((rd_T38 l0_1 x22_2).f1) true _ ?side1 ?side2 A16.out).mono ?_
      (case side1 => exact zc (Kd.C_below HR140_1.out HB.out))
      (case side2 => exact HC140_1.out)
      rintro e w40 ⟨rfl, hb⟩
      refine ⟨_, rfl, ?_⟩
      replace BK138 := am (blk_below (zk BK138) hb)
      replace BK141 := am (blk_below (zk BK141) hb)
      replace HB := am (below_step (zb HB) hb)
      (try clear hb)
      (try clear hb2)
      (try clear hk)
      (try clear hi)
      refine hK.out _ _ ⟨ce0 BK141, ce1 BK141⟩ (fun hHeld => ?_)
      clear hK K
      refine norm_ (a' := ?_) ?_ ?_
      rotate_left
      · show Act.put _ (some 28) _ = _
        simp only [Act.put, List.setIfInBounds_toArray, List.set_cons_zero, List.set_cons_succ, i64_w, i32_w]
        rfl
      refine pu 2 29 19 7 rfl rfl ?_
      refine pu 3 30 19 15 rfl rfl ?_
      refine pu 4 31 19 31 rfl rfl ?_
      refine pu 5 32 19 63 rfl rfl ?_
      refine pu 6 33 19 127 rfl rfl ?_
      refine po 7 34 19 255 rfl rfl ?_
      refine po 8 35 19 511 rfl rfl ?_
      refine po 9 36 19 1023 rfl rfl ?_
      refine po 10 37 19 2047 rfl rfl ?_
      refine po 11 38 19 4095 rfl rfl ?_
      refine po 12 39 19 8191 rfl rfl ?_
      refine po 13 40 19 16383 rfl rfl ?_
      refine po 14 41 19 32767 rfl rfl ?_
      refine po 15 42 19 65535 rfl rfl ?_
      refine po 16 43 19 131071 rfl rfl ?_
      refine pu 17 44 19 262143 rfl rfl ?_
      refine pu 18 45 19 524287 rfl rfl ?_
      refine done_ (done_of HT_.out (by kernel_rfl)) ?_
      try go_wp2
      go_roundg k2
      case measure => have := HJ1.out; have := HK2.out; omega
      case rel => exact ⟨(wrap64 (x22_2 + 1)), ze, H', ⟨by have := HJ1.out; have := HK2.out; omega⟩, ⟨zk BK138⟩, ⟨zb HB⟩⟩
    rw [if_pos c18] at H
    have c18b0 : decide (0 < x22_2) = true := decide_eq_true c18
    clear c18
    obtain ⟨ji19, hji19⟩ : ∃ j_ : Int, (wrap64 (x22_2 - 1)) = j_ := ⟨_, rfl⟩
    replace H : (if 0 ≤ (ji19) then (if (ji19) < (l0_1.length : Int) then (if ((Op.bytesLess (((rd_T38 l0_1 (ji19)).f0).toList) (((rd_T38 l0_1 x22_2).f0).toList)) = true) then (impl_PoolOk.l0 k2 l0_1 (l0_1.length : Int) (wrap64 (x22_2 + 1)) l0_0 l0_1) else (some false)) else (none)) else (none)) = some r := by first | (rw [hji19] at H; exact H) | (simp only [hji19] at H ⊢; exact H)
    (try rw [hji19] at A16)
    have hji19w : (IntKind.i64.wrap (x22_2 - 1)) = ji19 := (i64_w _).trans hji19
    by_cases c20 : 0 ≤ (ji19)
    rotate_left
    · rw [if_neg c20] at H
      exact absurd H (by simp)
    rw [if_pos c20] at H
    have c20b0 : decide (0 ≤ (ji19)) = true := decide_eq_true c20
    clear c20
    by_cases c21 : (ji19) < (l0_1.length : Int)
    rotate_left
    · rw [if_neg c21] at H
      exact absurd H (by simp)
    rw [if_pos c21] at H
    have c21b0 : decide ((ji19) < (l0_1.length : Int)) = true := decide_eq_true c21
    clear c21
    by_cases c22 : ((Op.bytesLess (((rd_T38 l0_1 (ji19)).f0).toList) (((rd_T38 l0_1 x22_2).f0).toList)) = true)
    · rw [if_pos c22] at H
      have c22b0 : (Op.bytesLess (((rd_T38 l0_1 (ji19)).f0).toList) (((rd_T38 l0_1 x22_2).f0).toList)) = true := c22
      clear c22
      have H' := am H
      clear H
      have p140 : 0 ≤ (x22_2 : Int) := of_decide_eq_true zl
      have q140 : x22_2 < (l0_1.length : Int) := of_decide_eq_true zl
      obtain ⟨ad140, A140_1, c140_1, e140, hx140_0, hx140_1, hl140_1, hi140_1⟩ := at_T38 HR0_1.out x22_2 p140 q140
      cases e140
      replace hx140_0 := hcx HB hx140_0
      replace hx140_1 := hcx HB hx140_1
      have HR140_1 := am hi140_1
      have HC140_1 := am hl140_1
      clear hi140_1 hl140_1
      replace p140 := eq_true p140
      replace q140 := eq_true q140
      try go_wp2_with (first | ((with_reducible refine gate_dst (N := 4) rfl ?_); (try (refine gate_guard (by rfl) ?_; dsimp only)); refine bx 38 #[.string (⟨#[]⟩ : ByteArray), .slice none 0 0] ?_; intro gb141 hg w23 hbox hb; have BK141 := am (hbox); have GW141 := am (zn hg (zb HB)); have GE141 := am (zn hg (zb HB)); replace HB := am (below_step (zb HB) hb); have NB138_141 := am (zx hg (zk BK138)); have NB141_138 := am (zy hg (zk BK138)); replace BK138 := am (blk_below (zk BK138) hb); clear hb hbox hg; have hnb24 := NB141_138.out; have hnc24 := NB138_141.out; have hcz25_0 := ce0 BK141; have hcz25_1 := ce1 BK141; have hfz25_0 := bfz BK141 0; have hfz25_1 := bfz BK141 1))
      have n0_ : Aside0 (((w23.setCell ⟨gb141, 0, none⟩ (.string ((rd_T38 l0_1 x22_2).f0))).setCell ⟨gb141, 1, none⟩ (.slice A140_1 ((rd_T38 l0_1 x22_2).f1).length c140_1)).heap[gb138]? = some (.cells #[.slice A0_0 l0_0.length c0_0, .slice (some ad140) l0_1.length c0_1] 31 (0, 0))) := ⟨zk BK138⟩
      have n1_ : Aside0 (((w23.setCell ⟨gb141, 0, none⟩ (.string ((rd_T38 l0_1 x22_2).f0))).setCell ⟨gb141, 1, none⟩ (.slice A140_1 ((rd_T38 l0_1 x22_2).f1).length c140_1)).heap[gb141]? = some (.cells #[.string ((rd_T38 l0_1 x22_2).f0), .slice A140_1 ((rd_T38 l0_1 x22_2).f1).length c140_1] 38 (0, 0))) := ⟨zp BK141⟩
      have n2_ : Aside0 (Below w.heap.size w ((w23.setCell ⟨gb141, 0, none⟩ (.string ((rd_T38 l0_1 x22_2).f0))).setCell ⟨gb141, 1, none⟩ (.slice A140_1 ((rd_T38 l0_1 x22_2).f1).length c140_1))) := ⟨zb HB⟩
      (try clear BK138)
      (try clear BK141)
      (try clear HB)
      generalize ((w23.setCell ⟨gb141, 0, none⟩ (.string ((rd_T38 l0_1 x22_2).f0))).setCell ⟨gb141, 1, none⟩ (.slice A140_1 ((rd_T38 l0_1 x22_2).f1).length c140_1)) = w26 at n0_ n1_ n2_ ⊢
      have BK138 := n0_
      have BK141 := n1_
      have HB := n2_
      clear n0_ n1_ n2_
      replace BK138 := am (blk_drew BK138.out)
      replace BK141 := am (blk_drew BK141.out)
      replace HB := am (below_drew1 HB.out)
      have p143 : 0 ≤ ((ji19) : Int) := of_decide_eq_true zl
      have q143 : (ji19) < (l0_1.length : Int) := of_decide_eq_true zl
      obtain ⟨ad143, A143_1, c143_1, e143, hx143_0, hx143_1, hl143_1, hi143_1⟩ := at_T38 HR0_1.out (ji19) p143 q143
      have hw143_1 := hx143_1
      have hw143_0 := hx143_0
      obtain rfl : ad140 = ad143 := (by injection e143)
      replace hx143_0 := hcx HB hx143_0
      replace hx143_1 := hcx HB hx143_1
      have HR143_1 := am hi143_1
      have HC143_1 := am hl143_1
      clear hi143_1 hl143_1
      replace p143 := eq_true p143
      replace q143 := eq_true q143
      refine start_ (n := 19) (S := fun w' => w'.cell? ⟨gb141, 0, none⟩ = some (.string ((rd_T38 l0_1 x22_2).f0)) ∧ w'.cell? ⟨gb141, 1, none⟩ = some (.slice A140_1 ((rd_T38 l0_1 x22_2).f1).length c140_1) ∧ w'.cell? ⟨gb138, 0, none⟩ = some (.slice A0_0 l0_0.length c0_0) ∧ w'.cell? ⟨gb138, 1, none⟩ = some (.slice (some ad140) l0_1.length c0_1) ∧ w'.cell? (ad140.add (((ji19)).toNat * 2)) = some (.string ((rd_T38 l0_1 (ji19)).f0)) ∧ w'.cell? ⟨(ad140.add (((ji19)).toNat * 2)).block, (ad140.add (((ji19)).toNat * 2)).off + 1, none⟩ = some (.slice A143_1 ((rd_T38 l0_1 (ji19)).f1).length c143_1)) (ds := []) (bs 19 0) (by kernel_rfl) rfl rfl ⟨ce0 BK141, ce1 BK141, ce0 BK138, ce1 BK138, (hcx HB hw143_0), (hcx HB hw143_1)⟩ (fun hHeld => ?_); refine with_tabW impl_PoolOk.tab6 impl_PoolOk.bits6 (fun HT_ HW_ => ?_)
      generalize w26.drew = w27 at BK138 BK141 HB HR143_1 hx143_0 hx143_1 hHeld ⊢
      refine ta6 0 27 19 1 rfl rfl hHeld ?_
      refine oz 1 19 3 rfl rfl (fun K hK => ?_)
      refine gs Try.func20 #[.agg #[.string ((rd_T38 l0_1 x22_2).f0), .slice A140_1 ((rd_T38 l0_1 x22_2).f1).length c140_1]] rfl rfl ?_
      with_reducible refine (impl_VolOk.calls k2 ((rd_T38 l0_1 x22_2).f0) _ _ ((rd_T38 l0_1 x22_2).f1) true _ ?side1 ?side2 A16.out).mono ?_
      (case side1 => exact zc (Kd.C_below HR140_1.out HB.out))
      (case side2 => exact HC140_1.out)
      rintro e w28 ⟨rfl, hb⟩
      refine ⟨_, rfl, ?_⟩
      replace BK138 := am (blk_below (zk BK138) hb)
      replace BK141 := am (blk_below (zk BK141) hb)
      replace HB := am (below_step (zb HB) hb)
      (try clear hb)
      (try clear hb2)
      (try clear hk)
      (try clear hi)
      refine hK.out _ _ ⟨ce0 BK141, ce1 BK141, ce0 BK138, ce1 BK138, (hcx HB hw143_0), (hcx HB hw143_1)⟩ (fun hHeld => ?_)
      clear hK K
      refine norm_ (a' := ?_) ?_ ?_
      rotate_left
      · show Act.put _ (some 28) _ = _
        simp only [Act.put, List.setIfInBounds_toArray, List.set_cons_zero, List.set_cons_succ, i64_w, i32_w]
        rfl
      refine pu 2 29 19 7 rfl rfl ?_
      refine pu 3 30 19 15 rfl rfl ?_
      refine pu 4 31 19 31 rfl rfl ?_
      refine pu 5 32 19 63 rfl rfl ?_
      refine pu 6 33 19 127 rfl rfl ?_
      refine pu 7 34 19 255 rfl rfl ?_
      refine pu 9 36 19 767 rfl rfl ?_
      refine pu 10 37 19 1791 rfl rfl ?_
      refine pu 14 41 19 18175 rfl rfl ?_
      refine ta6 8 35 19 18431 rfl rfl hHeld ?_
      refine pu 11 38 19 20479 rfl rfl ?_
      refine pu 12 39 19 24575 rfl rfl ?_
      refine ta6 13 40 19 32767 rfl rfl hHeld ?_
      refine ta6 15 42 19 65535 rfl rfl hHeld ?_
      refine pu 16 43 19 131071 rfl rfl ?_
      refine pu 17 44 19 262143 rfl rfl ?_
      refine pu 18 45 19 524287 rfl rfl ?_
      refine done_ (done_of HT_.out (by kernel_rfl)) ?_
      try go_wp2
      go_roundg k2
      case measure => have := HJ1.out; have := HK2.out; omega
      case rel => exact ⟨(wrap64 (x22_2 + 1)), ze, H', ⟨by have := HJ1.out; have := HK2.out; omega⟩, ⟨zk BK138⟩, ⟨zb HB⟩⟩
    rw [if_neg c22] at H
    have c22b0 : (Op.bytesLess (((rd_T38 l0_1 (ji19)).f0).toList) (((rd_T38 l0_1 x22_2).f0).toList)) = false := by simpa using c22
    clear c22
    obtain rfl := Option.some.inj H
    have p140 : 0 ≤ (x22_2 : Int) := of_decide_eq_true zl
    have q140 : x22_2 < (l0_1.length : Int) := of_decide_eq_true zl
    obtain ⟨ad140, A140_1, c140_1, e140, hx140_0, hx140_1, hl140_1, hi140_1⟩ := at_T38 HR0_1.out x22_2 p140 q140
    cases e140
    replace hx140_0 := hcx HB hx140_0
    replace hx140_1 := hcx HB hx140_1
    have HR140_1 := am hi140_1
    have HC140_1 := am hl140_1
    clear hi140_1 hl140_1
    replace p140 := eq_true p140
    replace q140 := eq_true q140
    try go_wp2_with (first | ((with_reducible refine gate_dst (N := 4) rfl ?_); (try (refine gate_guard (by rfl) ?_; dsimp only)); refine bx 38 #[.string (⟨#[]⟩ : ByteArray), .slice none 0 0] ?_; intro gb141 hg w29 hbox hb; have BK141 := am (hbox); have GW141 := am (zn hg (zb HB)); have GE141 := am (zn hg (zb HB)); replace HB := am (below_step (zb HB) hb); have NB138_141 := am (zx hg (zk BK138)); have NB141_138 := am (zy hg (zk BK138)); replace BK138 := am (blk_below (zk BK138) hb); clear hb hbox hg; have hnb30 := NB141_138.out; have hnc30 := NB138_141.out; have hcz31_0 := ce0 BK141; have hcz31_1 := ce1 BK141; have hfz31_0 := bfz BK141 0; have hfz31_1 := bfz BK141 1))
    have n0_ : Aside0 (((w29.setCell ⟨gb141, 0, none⟩ (.string ((rd_T38 l0_1 x22_2).f0))).setCell ⟨gb141, 1, none⟩ (.slice A140_1 ((rd_T38 l0_1 x22_2).f1).length c140_1)).heap[gb138]? = some (.cells #[.slice A0_0 l0_0.length c0_0, .slice (some ad140) l0_1.length c0_1] 31 (0, 0))) := ⟨zk BK138⟩
    have n1_ : Aside0 (((w29.setCell ⟨gb141, 0, none⟩ (.string ((rd_T38 l0_1 x22_2).f0))).setCell ⟨gb141, 1, none⟩ (.slice A140_1 ((rd_T38 l0_1 x22_2).f1).length c140_1)).heap[gb141]? = some (.cells #[.string ((rd_T38 l0_1 x22_2).f0), .slice A140_1 ((rd_T38 l0_1 x22_2).f1).length c140_1] 38 (0, 0))) := ⟨zp BK141⟩
    have n2_ : Aside0 (Below w.heap.size w ((w29.setCell ⟨gb141, 0, none⟩ (.string ((rd_T38 l0_1 x22_2).f0))).setCell ⟨gb141, 1, none⟩ (.slice A140_1 ((rd_T38 l0_1 x22_2).f1).length c140_1))) := ⟨zb HB⟩
    (try clear BK138)
    (try clear BK141)
    (try clear HB)
    generalize ((w29.setCell ⟨gb141, 0, none⟩ (.string ((rd_T38 l0_1 x22_2).f0))).setCell ⟨gb141, 1, none⟩ (.slice A140_1 ((rd_T38 l0_1 x22_2).f1).length c140_1)) = w32 at n0_ n1_ n2_ ⊢
    have BK138 := n0_
    have BK141 := n1_
    have HB := n2_
    clear n0_ n1_ n2_
    replace BK138 := am (blk_drew BK138.out)
    replace BK141 := am (blk_drew BK141.out)
    replace HB := am (below_drew1 HB.out)
    have p143 : 0 ≤ ((ji19) : Int) := of_decide_eq_true zl
    have q143 : (ji19) < (l0_1.length : Int) := of_decide_eq_true zl
    obtain ⟨ad143, A143_1, c143_1, e143, hx143_0, hx143_1, hl143_1, hi143_1⟩ := at_T38 HR0_1.out (ji19) p143 q143
    have hw143_1 := hx143_1
    have hw143_0 := hx143_0
    obtain rfl : ad140 = ad143 := (by injection e143)
    replace hx143_0 := hcx HB hx143_0
    replace hx143_1 := hcx HB hx143_1
    have HR143_1 := am hi143_1
    have HC143_1 := am hl143_1
    clear hi143_1 hl143_1
    replace p143 := eq_true p143
    replace q143 := eq_true q143
    refine start_ (n := 19) (S := fun w' => w'.cell? ⟨gb141, 0, none⟩ = some (.string ((rd_T38 l0_1 x22_2).f0)) ∧ w'.cell? ⟨gb141, 1, none⟩ = some (.slice A140_1 ((rd_T38 l0_1 x22_2).f1).length c140_1) ∧ w'.cell? ⟨gb138, 0, none⟩ = some (.slice A0_0 l0_0.length c0_0) ∧ w'.cell? ⟨gb138, 1, none⟩ = some (.slice (some ad140) l0_1.length c0_1) ∧ w'.cell? (ad140.add (((ji19)).toNat * 2)) = some (.string ((rd_T38 l0_1 (ji19)).f0)) ∧ w'.cell? ⟨(ad140.add (((ji19)).toNat * 2)).block, (ad140.add (((ji19)).toNat * 2)).off + 1, none⟩ = some (.slice A143_1 ((rd_T38 l0_1 (ji19)).f1).length c143_1)) (ds := []) (bs 19 0) (by kernel_rfl) rfl rfl ⟨ce0 BK141, ce1 BK141, ce0 BK138, ce1 BK138, (hcx HB hw143_0), (hcx HB hw143_1)⟩ (fun hHeld => ?_); refine with_tabW impl_PoolOk.tab6 impl_PoolOk.bits6 (fun HT_ HW_ => ?_)
    generalize w32.drew = w33 at BK138 BK141 HB HR143_1 hx143_0 hx143_1 hHeld ⊢
    refine ta6 0 27 19 1 rfl rfl hHeld ?_
    refine oz 1 19 3 rfl rfl (fun K hK => ?_)
    refine gs Try.func20 #[.agg #[.string ((rd_T38 l0_1 x22_2).f0), .slice A140_1 ((rd_T38 l0_1 x22_2).f1).length c140_1]] rfl rfl ?_
    with_reducible refine (impl_VolOk.calls k2 ((rd_T38 l0_1 x22_2).f0) _ _ ((rd_T38 l0_1 x22_2).f1) true _ ?side1 ?side2 A16.out).mono ?_
    (case side1 => exact zc (Kd.C_below HR140_1.out HB.out))
    (case side2 => exact HC140_1.out)
    rintro e w34 ⟨rfl, hb⟩
    refine ⟨_, rfl, ?_⟩
    replace BK138 := am (blk_below (zk BK138) hb)
    replace BK141 := am (blk_below (zk BK141) hb)
    replace HB := am (below_step (zb HB) hb)
    (try clear hb)
    (try clear hb2)
    (try clear hk)
    (try clear hi)
    refine hK.out _ _ ⟨ce0 BK141, ce1 BK141, ce0 BK138, ce1 BK138, (hcx HB hw143_0), (hcx HB hw143_1)⟩ (fun hHeld => ?_)
    clear hK K
    refine norm_ (a' := ?_) ?_ ?_
    rotate_left
    · show Act.put _ (some 28) _ = _
      simp only [Act.put, List.setIfInBounds_toArray, List.set_cons_zero, List.set_cons_succ, i64_w, i32_w]
      rfl
    refine pu 2 29 19 7 rfl rfl ?_
    refine pu 3 30 19 15 rfl rfl ?_
    refine pu 4 31 19 31 rfl rfl ?_
    refine pu 5 32 19 63 rfl rfl ?_
    refine pu 6 33 19 127 rfl rfl ?_
    refine pu 7 34 19 255 rfl rfl ?_
    refine pu 9 36 19 767 rfl rfl ?_
    refine pu 10 37 19 1791 rfl rfl ?_
    refine pu 14 41 19 18175 rfl rfl ?_
    refine ta6 8 35 19 18431 rfl rfl hHeld ?_
    refine pu 11 38 19 20479 rfl rfl ?_
    refine pu 12 39 19 24575 rfl rfl ?_
    refine ta6 13 40 19 32767 rfl rfl hHeld ?_
    refine ta6 15 42 19 65535 rfl rfl hHeld ?_
    refine pu 16 43 19 131071 rfl rfl ?_
    refine pu 17 44 19 262143 rfl rfl ?_
    refine pu 18 45 19 524287 rfl rfl ?_
    refine done_ (done_of HT_.out (by kernel_rfl)) ?_
    try go_wp2
    go_ret
    exact ⟨by first | rfl | (simp [errW_none, errW_some] <;> rfl) | (simp only [← hji19]; first | rfl | (simp [errW_none, errW_some] <;> rfl)) | (simp [*, errW_none, errW_some] <;> rfl), (zb HB)⟩
end Go.Proofs.Ytooamacekmjpaaa.PFnPoolOnce
