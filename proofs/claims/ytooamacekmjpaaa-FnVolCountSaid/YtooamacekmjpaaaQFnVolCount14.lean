/- The walk: each function that the law comes to as a plain Lean function, and a proof that the Go code answers so. Written by this session's program over the kit's printer. -/
import Derived.Test.YtooamacekmjpaaaZ
import Derived.Test.YtooamacekmjpaaaQFnVolCount0
import Derived.Test.YtooamacekmjpaaaQFnVolCount1
import Derived.Test.YtooamacekmjpaaaQFnVolCount12
import Derived.Test.YtooamacekmjpaaaQFnVolCount13
namespace Go.Proofs.Ytooamacekmjpaaa.PFnVolCount
open Go.RowKit Go.Proofs.YtooamacekmjpaaaW.PrintWords Go.Proofs.YtooamacekmjpaaaW.PrintLast Go.Proofs.YtooamacekmjpaaaW.PrintMore
attribute [local go_sem] max2_int min2_int max_two min_two max_three min_three max_four min_four   -- for this text's walks alone
set_option linter.unusedVariables false
set_option linter.unusedSimpArgs false
/-! ### laws_FnVolCount: function 7 -/
mutual
def laws_FnVolCount.j0 : Nat → List Int → List Int → Bool → Option (Bool)
 | 0, _, _, _ => none
 | k + 1, x0, x1, x19 => if x19 = true then (some true) else ((spec_DrawVolUses.f k x0).bind fun bt515 => ((impl_VolUses.f k bt515.1 bt515.2.1 bt515.2.2).bind fun t521 => ((spec_VolUses.f k bt515.1 bt515.2.1 bt515.2.2).bind fun t522 => (if t521 = t522 then ((spec_VolOk.f k bt515.1 bt515.2.1).bind fun t523 => (if t523 = true then (laws_FnVolCount.j1 k x1 bt515.2.2 t521 ((bt515.2.1.length : Int) == 6) bt515.1 bt515.2.1) else (laws_FnVolCount.j1 k x1 bt515.2.2 t521 true bt515.1 bt515.2.1))) else (laws_FnVolCount.j1 k x1 bt515.2.2 t521 true bt515.1 bt515.2.1)))))
def laws_FnVolCount.j1 : Nat → List Int → Int → Int → Bool → ByteArray → List Int → Option (Bool)
 | 0, _, _, _, _, _, _ => none
 | k + 1, x1, x6, x7, x43, x521000, x521001 => if x43 = true then ((spec_VolUses.f k x521000 x521001 x6).bind fun t524 => (some (x7 == t524))) else ((some (([] : List Int) : List Int)).bind fun y525 => (if y525.length + x521001.length < 17592186044416 then ((some (y525 ++ x521001 : List Int)).bind fun y528 => ((some (([1 + ((x1.length : Int) % 8)] : List Int) : List Int)).bind fun y531 => (if y528.length + y531.length < 17592186044416 then (laws_FnVolCount.l0 k (1 + ((x1.length : Int) % 8)) 1 x521000 x521001 x521000 (y528 ++ y531)) else (none)))) else (none)))
def laws_FnVolCount.l0 : Nat → Int → Int → ByteArray → List Int → ByteArray → List Int → Option (Bool)
 | 0, _, _, _, _, _, _ => none
 | k + 1, x8, x10, x521000, x521001, x538000, x538001 => if x10 ≤ 8 then (if x10 = x8 then (laws_FnVolCount.j3 k x8 x10 1 x521000 x521001 x538000 x538001) else (laws_FnVolCount.j3 k x8 x10 0 x521000 x521001 x538000 x538001)) else (some true)
def laws_FnVolCount.j3 : Nat → Int → Int → Int → ByteArray → List Int → ByteArray → List Int → Option (Bool)
 | 0, _, _, _, _, _, _, _ => none
 | k + 1, x8, x10, x11, x521000, x521001, x538000, x538001 => (impl_VolUses.f k x538000 x538001 x10).bind fun t538 => ((impl_VolUses.f k x521000 x521001 x10).bind fun t539 => (if t538 = (wrap64 (t539 + x11)) then (laws_FnVolCount.l0 k x8 (wrap64 (x10 + 1)) x521000 x521001 x538000 x538001) else (some false)))
end
def laws_FnVolCount.f (k : Nat) (l0 : List Int) (l1 : List Int) : Option (Bool) := if (l0.length : Int) > 1048576 then (laws_FnVolCount.j0 k l0 l1 true) else (laws_FnVolCount.j0 k l0 l1 (decide ((l1.length : Int) > 1048576)))
theorem laws_FnVolCount.mono_l : ∀ k, (∀ y0 y1 y2, LeO (laws_FnVolCount.j0 k y0 y1 y2) (laws_FnVolCount.j0 (k + 1) y0 y1 y2)) ∧ (∀ y0 y1 y2 y3 y4 y5, LeO (laws_FnVolCount.j1 k y0 y1 y2 y3 y4 y5) (laws_FnVolCount.j1 (k + 1) y0 y1 y2 y3 y4 y5)) ∧ (∀ y0 y1 y2 y3 y4 y5, LeO (laws_FnVolCount.l0 k y0 y1 y2 y3 y4 y5) (laws_FnVolCount.l0 (k + 1) y0 y1 y2 y3 y4 y5)) ∧ (∀ y0 y1 y2 y3 y4 y5 y6, LeO (laws_FnVolCount.j3 k y0 y1 y2 y3 y4 y5 y6) (laws_FnVolCount.j3 (k + 1) y0 y1 y2 y3 y4 y5 y6))
 | 0 => ⟨fun _ _ _ r h => by simp [laws_FnVolCount.j0] at h, fun _ _ _ _ _ _ r h => by simp [laws_FnVolCount.j1] at h, fun _ _ _ _ _ _ r h => by simp [laws_FnVolCount.l0] at h, fun _ _ _ _ _ _ _ r h => by simp [laws_FnVolCount.j3] at h⟩
 | k + 1 => by
  obtain ⟨ih0, ih1, ih2, ih3⟩ := laws_FnVolCount.mono_l k
  refine ⟨?_, ?_, ?_, ?_⟩
  · intro y0 y1 y2
    unfold laws_FnVolCount.j0
    repeat' first
    | (with_reducible exact ih0 _ _ _)
    | (with_reducible exact ih1 _ _ _ _ _ _)
    | (with_reducible exact ih2 _ _ _ _ _ _)
    | (with_reducible exact ih3 _ _ _ _ _ _ _)
    | (with_reducible exact impl_VolUses.mono _ _ _ _)
    | (with_reducible exact spec_DrawVolUses.mono _ _)
    | (with_reducible exact spec_VolOk.mono _ _ _)
    | (with_reducible exact spec_VolUses.mono _ _ _ _)
    | (with_reducible exact LeO.refl _)
    | (with_reducible exact LeO.none _)
    | (with_reducible refine LeO.ite ?_ ?_)
    | (with_reducible refine LeO.bind ?_ (fun _ => ?_))
    | exact ih0 _ _ _
    | exact ih1 _ _ _ _ _ _
    | exact ih2 _ _ _ _ _ _
    | exact ih3 _ _ _ _ _ _ _
    | exact impl_VolUses.mono _ _ _ _
    | exact spec_DrawVolUses.mono _ _
    | exact spec_VolOk.mono _ _ _
    | exact spec_VolUses.mono _ _ _ _
    | exact LeO.none _
    | refine LeO.ite ?_ ?_
    | refine LeO.bind ?_ (fun _ => ?_)
  · intro y0 y1 y2 y3 y4 y5
    unfold laws_FnVolCount.j1
    repeat' first
    | (with_reducible exact ih0 _ _ _)
    | (with_reducible exact ih1 _ _ _ _ _ _)
    | (with_reducible exact ih2 _ _ _ _ _ _)
    | (with_reducible exact ih3 _ _ _ _ _ _ _)
    | (with_reducible exact impl_VolUses.mono _ _ _ _)
    | (with_reducible exact spec_DrawVolUses.mono _ _)
    | (with_reducible exact spec_VolOk.mono _ _ _)
    | (with_reducible exact spec_VolUses.mono _ _ _ _)
    | (with_reducible exact LeO.refl _)
    | (with_reducible exact LeO.none _)
    | (with_reducible refine LeO.ite ?_ ?_)
    | (with_reducible refine LeO.bind ?_ (fun _ => ?_))
    | exact ih0 _ _ _
    | exact ih1 _ _ _ _ _ _
    | exact ih2 _ _ _ _ _ _
    | exact ih3 _ _ _ _ _ _ _
    | exact impl_VolUses.mono _ _ _ _
    | exact spec_DrawVolUses.mono _ _
    | exact spec_VolOk.mono _ _ _
    | exact spec_VolUses.mono _ _ _ _
    | exact LeO.none _
    | refine LeO.ite ?_ ?_
    | refine LeO.bind ?_ (fun _ => ?_)
  · intro y0 y1 y2 y3 y4 y5
    unfold laws_FnVolCount.l0
    repeat' first
    | (with_reducible exact ih0 _ _ _)
    | (with_reducible exact ih1 _ _ _ _ _ _)
    | (with_reducible exact ih2 _ _ _ _ _ _)
    | (with_reducible exact ih3 _ _ _ _ _ _ _)
    | (with_reducible exact impl_VolUses.mono _ _ _ _)
    | (with_reducible exact spec_DrawVolUses.mono _ _)
    | (with_reducible exact spec_VolOk.mono _ _ _)
    | (with_reducible exact spec_VolUses.mono _ _ _ _)
    | (with_reducible exact LeO.refl _)
    | (with_reducible exact LeO.none _)
    | (with_reducible refine LeO.ite ?_ ?_)
    | (with_reducible refine LeO.bind ?_ (fun _ => ?_))
    | exact ih0 _ _ _
    | exact ih1 _ _ _ _ _ _
    | exact ih2 _ _ _ _ _ _
    | exact ih3 _ _ _ _ _ _ _
    | exact impl_VolUses.mono _ _ _ _
    | exact spec_DrawVolUses.mono _ _
    | exact spec_VolOk.mono _ _ _
    | exact spec_VolUses.mono _ _ _ _
    | exact LeO.none _
    | refine LeO.ite ?_ ?_
    | refine LeO.bind ?_ (fun _ => ?_)
  intro y0 y1 y2 y3 y4 y5 y6
  unfold laws_FnVolCount.j3
  repeat' first
  | (with_reducible exact ih0 _ _ _)
  | (with_reducible exact ih1 _ _ _ _ _ _)
  | (with_reducible exact ih2 _ _ _ _ _ _)
  | (with_reducible exact ih3 _ _ _ _ _ _ _)
  | (with_reducible exact impl_VolUses.mono _ _ _ _)
  | (with_reducible exact spec_DrawVolUses.mono _ _)
  | (with_reducible exact spec_VolOk.mono _ _ _)
  | (with_reducible exact spec_VolUses.mono _ _ _ _)
  | (with_reducible exact LeO.refl _)
  | (with_reducible exact LeO.none _)
  | (with_reducible refine LeO.ite ?_ ?_)
  | (with_reducible refine LeO.bind ?_ (fun _ => ?_))
  | exact ih0 _ _ _
  | exact ih1 _ _ _ _ _ _
  | exact ih2 _ _ _ _ _ _
  | exact ih3 _ _ _ _ _ _ _
  | exact impl_VolUses.mono _ _ _ _
  | exact spec_DrawVolUses.mono _ _
  | exact spec_VolOk.mono _ _ _
  | exact spec_VolUses.mono _ _ _ _
  | exact LeO.none _
  | refine LeO.ite ?_ ?_
  | refine LeO.bind ?_ (fun _ => ?_)
theorem laws_FnVolCount.mono : ∀ a0 a1 k, LeO (laws_FnVolCount.f k a0 a1) (laws_FnVolCount.f (k + 1) a0 a1) := by
 intro a0 a1 k
 obtain ⟨ih0, ih1, ih2, ih3⟩ := laws_FnVolCount.mono_l k
 unfold laws_FnVolCount.f
 repeat' first
  | (with_reducible exact ih0 _ _ _)
  | (with_reducible exact ih1 _ _ _ _ _ _)
  | (with_reducible exact ih2 _ _ _ _ _ _)
  | (with_reducible exact ih3 _ _ _ _ _ _ _)
  | (with_reducible exact impl_VolUses.mono _ _ _ _)
  | (with_reducible exact spec_DrawVolUses.mono _ _)
  | (with_reducible exact spec_VolOk.mono _ _ _)
  | (with_reducible exact spec_VolUses.mono _ _ _ _)
  | (with_reducible exact LeO.refl _)
  | (with_reducible exact LeO.none _)
  | (with_reducible refine LeO.ite ?_ ?_)
  | (with_reducible refine LeO.bind ?_ (fun _ => ?_))
  | exact ih0 _ _ _
  | exact ih1 _ _ _ _ _ _
  | exact ih2 _ _ _ _ _ _
  | exact ih3 _ _ _ _ _ _ _
  | exact impl_VolUses.mono _ _ _ _
  | exact spec_DrawVolUses.mono _ _
  | exact spec_VolOk.mono _ _ _
  | exact spec_VolUses.mono _ _ _ _
  | exact LeO.none _
  | refine LeO.ite ?_ ?_
  | refine LeO.bind ?_ (fun _ => ?_)
def laws_FnVolCount.T8 : Bool × List (List Nat × List Nat) := (true, [([], []), ([0], [0]), ([], []), ([], []), ([3], [3]), ([2, 4], [2, 4]), ([], []), ([6], [6]), ([5, 7, 5], [5, 7]), ([1, 8], [1, 8]), ([], []), ([10, 9, 8, 0, 1, 2, 3, 4, 5, 6, 7, 8, 9, 10], [9, 10])])
def laws_FnVolCount.B8 : List Nat := [0, 1, 0, 0, 8, 28, 0, 64, 252, 511, 0, 2047]
theorem laws_FnVolCount.tab8 : rtab .any (opsOf Try.f7 8) = laws_FnVolCount.T8 := by kernel_rfl
theorem laws_FnVolCount.bits8 : waitsOk laws_FnVolCount.T8.2 laws_FnVolCount.B8 = true := by kernel_rfl
def laws_FnVolCount.T15 : Bool × List (List Nat × List Nat) := (true, [([], []), ([], []), ([0, 1], [0, 1]), ([], []), ([], []), ([3, 4, 2], [3, 4]), ([], []), ([5, 6], [5, 6]), ([2, 7], [2, 7])])
def laws_FnVolCount.B15 : List Nat := [0, 0, 3, 0, 0, 31, 0, 127, 255]
theorem laws_FnVolCount.tab15 : rtab .any (opsOf Try.f7 15) = laws_FnVolCount.T15 := by kernel_rfl
theorem laws_FnVolCount.bits15 : waitsOk laws_FnVolCount.T15.2 laws_FnVolCount.B15 = true := by kernel_rfl
set_option maxHeartbeats 8000000 in
set_option maxRecDepth 100000 in
theorem laws_FnVolCount.calls (k : Nat) (A0 : Option Addr) (c0 : Nat) (l0 : List Int) (A1 : Option Addr) (c1 : Nat) (l1 : List Int) (r : Bool) (w : World) (hr0 : Kd.C (Kd.int .u8) w A0 l0.length l0) (hc0 : l0.length ≤ c0) (hr1 : Kd.C (Kd.int .u8) w A1 l1.length l1) (hc1 : l1.length ≤ c1) (h : laws_FnVolCount.f k l0 l1 = some r) (hr_ : r = true) :
 Calls Try.prog 7 #[.slice A0 l0.length c0, .slice A1 l1.length c1] w fun e w' => e = .returned (.bool r) ∧ Below w.heap.size w w' := by
 have hu38 := Try.underlying38
 have HR0 := am hr0
 have HC0 := am hc0
 clear hr0 hc0
 have HR1 := am hr1
 have HC1 := am hc1
 clear hr1 hc1
 have HB := am (Below.refl w.heap.size w)
 have H : (if (l0.length : Int) > 1048576 then (laws_FnVolCount.j0 k l0 l1 true) else (laws_FnVolCount.j0 k l0 l1 (decide ((l1.length : Int) > 1048576)))) = some r := h
 clear h
 have HC3 := am H
 clear H
 go_enter Try.func7, Try.ntmps7
 go_upto_region 1 with (fail)
 go_cut [19] (fun v19 wc => ∃ (kq : Nat) (x19_2 : Bool), v19 = .bool x19_2 ∧ Aside0 (laws_FnVolCount.j0 kq l0 l1 x19_2 = some r) ∧ Aside0 (kq ≤ k) ∧ Aside0 (Below w.heap.size w wc))
 case first =>
  have H := HC3.out
  clear HC3
  by_cases c4 : (l0.length : Int) > 1048576
  · rw [if_pos c4] at H
    have c4b0 : decide (1048576 < (l0.length : Int)) = true := decide_eq_true c4
    have c4b1 : decide (1048576 < l0.length) = true := decide_eq_true (by omega)
    clear c4
    (first | rw [c4b0] | (simp only [i64_w, i32_w]; rw [c4b0]) | skip)
    have H' := am H
    clear H
    go_wp2
    go_meet
    case rel => exact ⟨_, (true), ze, H', ⟨by first | omega | exact Nat.le_refl _⟩, ⟨zb HB⟩⟩
  rw [if_neg c4] at H
  have c4b0 : decide (1048576 < (l0.length : Int)) = false := decide_eq_false c4
  have c4b1 : decide (1048576 < l0.length) = false := decide_eq_false (by omega)
  clear c4
  (first | rw [c4b0] | (simp only [i64_w, i32_w]; rw [c4b0]) | skip)
  have H' := am H
  clear H
  go_wp2
  go_meet
  case rel => exact ⟨_, (decide ((l1.length : Int) > 1048576)), ze, H', ⟨by first | omega | exact Nat.le_refl _⟩, ⟨zb HB⟩⟩
 clear HC3
 try clear c1
 try clear p2
 try clear c4
 try clear c4b0
 try clear c4b1
 obtain ⟨kq, x19_2, rfl, HA, HJ2, HB⟩ := hcut
 cases kq with
 | zero => exact absurd HA.out (by simp [laws_FnVolCount.j0])
 | succ kj2 =>
  have H := HA.out
  clear HA
  simp only [laws_FnVolCount.j0] at H
  by_cases c5 : x19_2 = true
  · subst c5
    have H1 : (some true) = some r := by rw [if_pos rfl] at H; exact H
    clear H
    have H := H1
    clear H1
    obtain rfl := Option.some.inj H
    go_wp2
    go_ret
    exact ⟨zv, (zb HB)⟩
  replace c5 := Bool.eq_false_iff.mpr c5
  subst c5
  have H1 : ((spec_DrawVolUses.f kj2 l0).bind fun bt515 => ((impl_VolUses.f kj2 bt515.1 bt515.2.1 bt515.2.2).bind fun t521 => ((spec_VolUses.f kj2 bt515.1 bt515.2.1 bt515.2.2).bind fun t522 => (if t521 = t522 then ((spec_VolOk.f kj2 bt515.1 bt515.2.1).bind fun t523 => (if t523 = true then (laws_FnVolCount.j1 kj2 l1 bt515.2.2 t521 ((bt515.2.1.length : Int) == 6) bt515.1 bt515.2.1) else (laws_FnVolCount.j1 kj2 l1 bt515.2.2 t521 true bt515.1 bt515.2.1))) else (laws_FnVolCount.j1 kj2 l1 bt515.2.2 t521 true bt515.1 bt515.2.1))))) = some r := by rw [if_neg (show ¬ (false = true) by decide)] at H; exact H
  clear H
  have H := H1
  clear H1
  replace H := obs H
  obtain ⟨⟨t515, t516, t519⟩, A60, H⟩ := H
  replace H : ((impl_VolUses.f kj2 t515 t516 t519).bind fun t521 => ((spec_VolUses.f kj2 t515 t516 t519).bind fun t522 => (if t521 = t522 then ((spec_VolOk.f kj2 t515 t516).bind fun t523 => (if t523 = true then (laws_FnVolCount.j1 kj2 l1 t519 t521 ((t516.length : Int) == 6) t515 t516) else (laws_FnVolCount.j1 kj2 l1 t519 t521 true t515 t516))) else (laws_FnVolCount.j1 kj2 l1 t519 t521 true t515 t516)))) = some r := H
  have A6 := am A60
  clear A60
  replace H := obs H
  obtain ⟨t521, A70, H⟩ := H
  replace H : ((spec_VolUses.f kj2 t515 t516 t519).bind fun t522 => (if t521 = t522 then ((spec_VolOk.f kj2 t515 t516).bind fun t523 => (if t523 = true then (laws_FnVolCount.j1 kj2 l1 t519 t521 ((t516.length : Int) == 6) t515 t516) else (laws_FnVolCount.j1 kj2 l1 t519 t521 true t515 t516))) else (laws_FnVolCount.j1 kj2 l1 t519 t521 true t515 t516))) = some r := H
  have A7 := am A70
  clear A70
  have HC8 := am H
  clear H
  go_upto_region 5 with (first | ((with_reducible refine gate_callee (f := 26) rfl ?_); refine gl Try.func26 22 #[.slice A0 l0.length c0] rfl rfl rfl ?_; (with_reducible refine (spec_DrawVolUses.calls kj2 _ _ l0 t515 t516 t519 _ ?side1 ?side2 A6.out).mono ?_); (case side1 => exact zc (Kd.C_below HR0.out HB.out)); (case side2 => exact HC0.out); rintro e w9 ⟨v517, rfl, ho0, hb⟩; refine ⟨_, rfl, ?_⟩; have HO518 := am (Kd.Q_lower ho0 (below_size (zb HB))); replace HB := am (below_step (zb HB) hb); (try clear hb); (try clear hb2); (try clear hk); (try clear hi); (try clear ho0)) | ((with_reducible refine gate_dst (N := 5) rfl ?_); (try (refine gate_guard (by rfl) ?_; dsimp only)); refine bx 38 #[.string (⟨#[]⟩ : ByteArray), .slice none 0 0] ?_; intro gb520 hg w10 hbox hb; replace HO518 := am (Kd.Q_below (by (with_reducible repeat (first | apply Kd.Q_alloc | apply Kd.Q_drewN | apply Kd.Q_drew)); exact HO518.out) hb); have BK520 := am (hbox); have GW520 := am (zn hg (zb HB)); have GE520 := am (zn hg (zb HB)); replace HB := am (below_step (zb HB) hb); clear hb hbox hg; have hcz11_0 := ce0 BK520; have hcz11_1 := ce1 BK520; have hfz11_0 := bfz BK520 0; have hfz11_1 := bfz BK520 1; obtain ⟨Ao12, co12, eo12, _⟩ := Kd.Q_slice HO518.out; subst eo12) | ((with_reducible refine gate_callee (f := 27) rfl ?_); refine gl Try.func27 27 #[.agg #[.string t515, .slice Ao12 t516.length co12], .int .i64 t519] rfl rfl rfl ?_; (with_reducible refine (impl_VolUses.calls kj2 t515 _ _ t516 t519 t521 _ ?side1 ?side2 A7.out).mono ?_); (case side1 => refine (Kd.Q_reads' (e := 3) (base := w.heap.size) (ok := fun k_ => True) (n := t516.length) (c := co12) ?_).2.2; exact (by (with_reducible repeat (first | apply Kd.Q_alloc | apply Kd.Q_drewN | apply Kd.Q_drew)); exact (Kd.Q_mono (Kd.Q_far (p := ⟨gb520, 1, none⟩) (Kd.Q_far (p := ⟨gb520, 0, none⟩) (Kd.Q_types HO518.out BK520.out (by decide)) (fun _ hk => hk.2) (.string t515)) (fun _ hk => hk.2) (.slice Ao12 t516.length co12)) (fun _ h_ => h_.1)))); (case side2 => exact (Kd.Q_reads' HO518.out).2.1); rintro e w13 ⟨rfl, hb⟩; refine ⟨_, rfl, ?_⟩; replace HO518 := am (Kd.Q_below (by (with_reducible repeat (first | apply Kd.Q_alloc | apply Kd.Q_drewN | apply Kd.Q_drew)); exact (Kd.Q_mono (Kd.Q_far (p := ⟨gb520, 1, none⟩) (Kd.Q_far (p := ⟨gb520, 0, none⟩) (Kd.Q_types HO518.out BK520.out (by decide)) (fun _ hk => hk.2) (.string t515)) (fun _ hk => hk.2) (.slice Ao12 t516.length co12)) (fun _ h_ => h_.1))) hb); replace BK520 := am (blk_below (g := gb520) (o := .cells #[.string t515, .slice Ao12 t516.length co12] 38 (0, 0)) (zp BK520) hb); replace HB := am (below_step (zb HB) hb); (try clear hb); (try clear hb2); (try clear hk); (try clear hi)))
  (try simp only [Act.put, List.setIfInBounds_toArray, List.set_cons_zero, List.set_cons_succ])
  go_cut [43] (fun v43 wc => ∃ (kq : Nat) (x43_7 : Bool), v43 = .bool x43_7 ∧ Aside0 (laws_FnVolCount.j1 kq l1 t519 t521 x43_7 t515 t516 = some r) ∧ Aside0 (kq ≤ kj2) ∧ Aside0 (Kd.Q (Kd.int .i64) 3 wc w.heap.size (fun _ => True) (.slice Ao12 t516.length co12) t516) ∧ Aside0 (wc.heap[gb520]? = some (.cells #[.string t515, (.slice Ao12 t516.length co12)] 38 (0, 0))) ∧ Aside0 (Below w.heap.size w wc))
  case first =>
   have H := HC8.out
   clear HC8
   replace H := obs H
   obtain ⟨t522, A140, H⟩ := H
   replace H : (if t521 = t522 then ((spec_VolOk.f kj2 t515 t516).bind fun t523 => (if t523 = true then (laws_FnVolCount.j1 kj2 l1 t519 t521 ((t516.length : Int) == 6) t515 t516) else (laws_FnVolCount.j1 kj2 l1 t519 t521 true t515 t516))) else (laws_FnVolCount.j1 kj2 l1 t519 t521 true t515 t516)) = some r := H
   have A14 := am A140
   clear A140
   by_cases c15 : t521 = t522
   rotate_left
   · rw [if_neg c15] at H
     have c15b0 : (t521 == t522) = false := beq_eq_false_iff_ne.mpr c15
     have c15b1 : (t521 != t522) = true := bne_iff_ne.mpr c15
     (first | rw [c15b0] | (simp only [i64_w, i32_w]; rw [c15b0]) | skip)
     have H' := am H
     clear H
     have hcz27_0 := ce0 BK520
     have hcz27_1 := ce1 BK520
     have hfz27_0 := bfz BK520 0
     have hfz27_1 := bfz BK520 1
     go_wp2_with (first | ((with_reducible refine gate_callee (f := 28) rfl ?_); refine gl Try.func28 31 #[.agg #[.string t515, .slice Ao12 t516.length co12], .int .i64 t519] rfl rfl rfl ?_; (with_reducible refine (spec_VolUses.calls kj2 t515 _ _ t516 t519 t522 _ ?side1 ?side2 A14.out).mono ?_); (case side1 => exact zc (Kd.Q_reads' HO518.out).2.2); (case side2 => exact (Kd.Q_reads' HO518.out).2.1); rintro e w28 ⟨rfl, hb⟩; refine ⟨_, rfl, ?_⟩; replace HO518 := am (Kd.Q_below (by (with_reducible repeat (first | apply Kd.Q_alloc | apply Kd.Q_drewN | apply Kd.Q_drew)); exact HO518.out) hb); replace BK520 := am (blk_below (zk BK520) hb); replace HB := am (below_step (zb HB) hb); (try clear hb); (try clear hb2); (try clear hk); (try clear hi)))
     go_meet
     case rel => exact ⟨_, (true), ze, H', ⟨by have := HJ2.out; first | omega | exact Nat.le_refl _⟩, ⟨by (with_reducible repeat (first | apply Kd.Q_alloc | apply Kd.Q_drewN | apply Kd.Q_drew)); exact HO518.out⟩, ⟨zk BK520⟩, ⟨zb HB⟩⟩
   rw [if_pos c15] at H
   have c15b0 : (t521 == t522) = true := beq_iff_eq.mpr c15
   have c15b1 : (t521 != t522) = false := bne_eq_false_iff_eq.mpr c15
   clear c15
   (first | rw [c15b0] | (simp only [i64_w, i32_w]; rw [c15b0]) | skip)
   replace H := obs H
   obtain ⟨t523, A160, H⟩ := H
   replace H : (if t523 = true then (laws_FnVolCount.j1 kj2 l1 t519 t521 ((t516.length : Int) == 6) t515 t516) else (laws_FnVolCount.j1 kj2 l1 t519 t521 true t515 t516)) = some r := H
   have A16 := am A160
   clear A160
   by_cases c17 : t523 = true
   · subst c17
     have H1 : (laws_FnVolCount.j1 kj2 l1 t519 t521 ((t516.length : Int) == 6) t515 t516) = some r := by rw [if_pos rfl] at H; exact H
     clear H
     have H := H1
     clear H1
     have H' := am H
     clear H
     have hcz18_0 := ce0 BK520
     have hcz18_1 := ce1 BK520
     have hfz18_0 := bfz BK520 0
     have hfz18_1 := bfz BK520 1
     go_wp2_with (first | ((with_reducible refine gate_callee (f := 28) rfl ?_); refine gl Try.func28 31 #[.agg #[.string t515, .slice Ao12 t516.length co12], .int .i64 t519] rfl rfl rfl ?_; (with_reducible refine (spec_VolUses.calls kj2 t515 _ _ t516 t519 t522 _ ?side1 ?side2 A14.out).mono ?_); (case side1 => exact zc (Kd.Q_reads' HO518.out).2.2); (case side2 => exact (Kd.Q_reads' HO518.out).2.1); rintro e w19 ⟨rfl, hb⟩; refine ⟨_, rfl, ?_⟩; replace HO518 := am (Kd.Q_below (by (with_reducible repeat (first | apply Kd.Q_alloc | apply Kd.Q_drewN | apply Kd.Q_drew)); exact HO518.out) hb); replace BK520 := am (blk_below (zk BK520) hb); replace HB := am (below_step (zb HB) hb); (try clear hb); (try clear hb2); (try clear hk); (try clear hi); have hcz20_0 := ce0 BK520; have hcz20_1 := ce1 BK520; have hfz20_0 := bfz BK520 0; have hfz20_1 := bfz BK520 1) | (go_at_call 21; (with_reducible refine (spec_VolOk.calls kj2 t515 _ _ t516 true _ ?side1 ?side2 A16.out).mono ?_); (case side1 => exact zc (Kd.Q_reads' HO518.out).2.2); (case side2 => exact (Kd.Q_reads' HO518.out).2.1); rintro e w21 ⟨rfl, hb⟩; replace HO518 := am (Kd.Q_below (by (with_reducible repeat (first | apply Kd.Q_alloc | apply Kd.Q_drewN | apply Kd.Q_drew)); exact HO518.out) hb); replace BK520 := am (blk_below (zk BK520) hb); replace HB := am (below_step (zb HB) hb); (try clear hb); (try clear hb2); (try clear hk); (try clear hi); have hcz22_0 := ce0 BK520; have hcz22_1 := ce1 BK520; have hfz22_0 := bfz BK520 0; have hfz22_1 := bfz BK520 1))
     go_meet
     case rel => exact ⟨_, (((t516.length : Int) == 6)), ze, H', ⟨by have := HJ2.out; first | omega | exact Nat.le_refl _⟩, ⟨by (with_reducible repeat (first | apply Kd.Q_alloc | apply Kd.Q_drewN | apply Kd.Q_drew)); exact HO518.out⟩, ⟨zk BK520⟩, ⟨zb HB⟩⟩
   replace c17 := Bool.eq_false_iff.mpr c17
   subst c17
   have H1 : (laws_FnVolCount.j1 kj2 l1 t519 t521 true t515 t516) = some r := by rw [if_neg (show ¬ (false = true) by decide)] at H; exact H
   clear H
   have H := H1
   clear H1
   have H' := am H
   clear H
   have hcz23_0 := ce0 BK520
   have hcz23_1 := ce1 BK520
   have hfz23_0 := bfz BK520 0
   have hfz23_1 := bfz BK520 1
   go_wp2_with (first | ((with_reducible refine gate_callee (f := 28) rfl ?_); refine gl Try.func28 31 #[.agg #[.string t515, .slice Ao12 t516.length co12], .int .i64 t519] rfl rfl rfl ?_; (with_reducible refine (spec_VolUses.calls kj2 t515 _ _ t516 t519 t522 _ ?side1 ?side2 A14.out).mono ?_); (case side1 => exact zc (Kd.Q_reads' HO518.out).2.2); (case side2 => exact (Kd.Q_reads' HO518.out).2.1); rintro e w24 ⟨rfl, hb⟩; refine ⟨_, rfl, ?_⟩; replace HO518 := am (Kd.Q_below (by (with_reducible repeat (first | apply Kd.Q_alloc | apply Kd.Q_drewN | apply Kd.Q_drew)); exact HO518.out) hb); replace BK520 := am (blk_below (zk BK520) hb); replace HB := am (below_step (zb HB) hb); (try clear hb); (try clear hb2); (try clear hk); (try clear hi); have hcz25_0 := ce0 BK520; have hcz25_1 := ce1 BK520; have hfz25_0 := bfz BK520 0; have hfz25_1 := bfz BK520 1) | (go_at_call 21; (with_reducible refine (spec_VolOk.calls kj2 t515 _ _ t516 false _ ?side1 ?side2 A16.out).mono ?_); (case side1 => exact zc (Kd.Q_reads' HO518.out).2.2); (case side2 => exact (Kd.Q_reads' HO518.out).2.1); rintro e w26 ⟨rfl, hb⟩; replace HO518 := am (Kd.Q_below (by (with_reducible repeat (first | apply Kd.Q_alloc | apply Kd.Q_drewN | apply Kd.Q_drew)); exact HO518.out) hb); replace BK520 := am (blk_below (zk BK520) hb); replace HB := am (below_step (zb HB) hb); (try clear hb); (try clear hb2); (try clear hk); (try clear hi)))
   go_meet
   case rel => exact ⟨_, (true), ze, H', ⟨by have := HJ2.out; first | omega | exact Nat.le_refl _⟩, ⟨by (with_reducible repeat (first | apply Kd.Q_alloc | apply Kd.Q_drewN | apply Kd.Q_drew)); exact HO518.out⟩, ⟨zk BK520⟩, ⟨zb HB⟩⟩
  clear HC8
  try clear c1
  try clear c2
  try clear p2
  try clear c4
  try clear c4b0
  try clear c4b1
  try clear c5
  try clear c7
  try clear c15
  try clear c15b0
  try clear c15b1
  try clear c17
  try clear c26
  try clear c27
  try clear c28
  try clear hcz11_0
  try clear hcz11_1
  try clear hcz18_0
  try clear hcz18_1
  try clear hcz20_0
  try clear hcz20_1
  try clear hcz22_0
  try clear hcz22_1
  try clear hcz23_0
  try clear hcz23_1
  try clear hcz25_0
  try clear hcz25_1
  try clear hcz27_0
  try clear hcz27_1
  try clear hfz11_0
  try clear hfz11_1
  try clear hfz18_0
  try clear hfz18_1
  try clear hfz20_0
  try clear hfz20_1
  try clear hfz22_0
  try clear hfz22_1
  try clear hfz23_0
  try clear hfz23_1
  try clear hfz25_0
  try clear hfz25_1
  try clear hfz27_0
  try clear hfz27_1
  try clear p2
  obtain ⟨kq, x43_7, rfl, HA, HJ7, HO_521001, BK520, HB⟩ := hcut
  cases kq with
  | zero => exact absurd HA.out (by simp [laws_FnVolCount.j1])
  | succ kj7 =>
   have H := HA.out
   clear HA
   simp only [laws_FnVolCount.j1] at H
   by_cases c29 : x43_7 = true
   · subst c29
     have H1 : ((spec_VolUses.f kj7 t515 t516 t519).bind fun t524 => (some (t521 == t524))) = some r := by rw [if_pos rfl] at H; exact H
     clear H
     have H := H1
     clear H1
     replace H := obs H
     obtain ⟨t524, A300, H⟩ := H
     replace H : (some (t521 == t524)) = some r := H
     have A30 := am A300
     clear A300
     obtain rfl := Option.some.inj H
     have hcz31_0 := ce0 BK520
     have hcz31_1 := ce1 BK520
     have hfz31_0 := bfz BK520 0
     have hfz31_1 := bfz BK520 1
     go_wp2_with (first | ((with_reducible refine gate_callee (f := 28) rfl ?_); refine gl Try.func28 47 #[.agg #[.string t515, .slice Ao12 t516.length co12], .int .i64 t519] rfl rfl rfl ?_; (with_reducible refine (spec_VolUses.calls kj7 t515 _ _ t516 t519 t524 _ ?side1 ?side2 A30.out).mono ?_); (case side1 => exact zc (Kd.Q_reads' HO_521001.out).2.2); (case side2 => exact (Kd.Q_reads' HO_521001.out).2.1); rintro e w32 ⟨rfl, hb⟩; refine ⟨_, rfl, ?_⟩; replace HO_521001 := am (Kd.Q_below (by (with_reducible repeat (first | apply Kd.Q_alloc | apply Kd.Q_drewN | apply Kd.Q_drew)); exact HO_521001.out) hb); replace BK520 := am (blk_below (zk BK520) hb); replace HB := am (below_step (zb HB) hb); (try clear hb); (try clear hb2); (try clear hk); (try clear hi)))
     go_ret
     exact ⟨zv, (zb HB)⟩
   replace c29 := Bool.eq_false_iff.mpr c29
   subst c29
   have H1 : ((some (([] : List Int) : List Int)).bind fun y525 => (if y525.length + t516.length < 17592186044416 then ((some (y525 ++ t516 : List Int)).bind fun y528 => ((some (([1 + ((l1.length : Int) % 8)] : List Int) : List Int)).bind fun y531 => (if y528.length + y531.length < 17592186044416 then (laws_FnVolCount.l0 kj7 (1 + ((l1.length : Int) % 8)) 1 t515 t516 t515 (y528 ++ y531)) else (none)))) else (none))) = some r := by rw [if_neg (show ¬ (false = true) by decide)] at H; exact H
   clear H
   have H := H1
   clear H1
   obtain ⟨y525, hy525⟩ : ∃ y_ : List Int, y_ = (([] : List Int)) := ⟨_, rfl⟩
   replace H : (if y525.length + t516.length < 17592186044416 then ((some (y525 ++ t516 : List Int)).bind fun y528 => ((some (([1 + ((l1.length : Int) % 8)] : List Int) : List Int)).bind fun y531 => (if y528.length + y531.length < 17592186044416 then (laws_FnVolCount.l0 kj7 (1 + ((l1.length : Int) % 8)) 1 t515 t516 t515 (y528 ++ y531)) else (none)))) else (none)) = some r := hY hy525 H
   have Ny525 := am hy525
   clear hy525
   by_cases c33 : y525.length + t516.length < 17592186044416
   rotate_left
   · rw [if_neg c33] at H
     exact absurd H (by simp)
   rw [if_pos c33] at H
   have LMc33 := am c33
   clear c33
   obtain ⟨y528, hy528⟩ : ∃ y_ : List Int, y_ = (y525 ++ t516) := ⟨_, rfl⟩
   replace H : ((some (([1 + ((l1.length : Int) % 8)] : List Int) : List Int)).bind fun y531 => (if y528.length + y531.length < 17592186044416 then (laws_FnVolCount.l0 kj7 (1 + ((l1.length : Int) % 8)) 1 t515 t516 t515 (y528 ++ y531)) else (none))) = some r := hY hy528 H
   have Ny528 := am hy528
   clear hy528
   obtain ⟨y531, hy531⟩ : ∃ y_ : List Int, y_ = (([1 + ((l1.length : Int) % 8)] : List Int)) := ⟨_, rfl⟩
   replace H : (if y528.length + y531.length < 17592186044416 then (laws_FnVolCount.l0 kj7 (1 + ((l1.length : Int) % 8)) 1 t515 t516 t515 (y528 ++ y531)) else (none)) = some r := hY hy531 H
   have Ny531 := am hy531
   clear hy531
   by_cases c34 : y528.length + y531.length < 17592186044416
   rotate_left
   · rw [if_neg c34] at H
     exact absurd H (by simp)
   rw [if_pos c34] at H
   have LMc34 := am c34
   clear c34
   obtain ⟨y534, hy534⟩ : ∃ y_ : List Int, y_ = (y528 ++ y531) := ⟨_, rfl⟩
   replace H : (laws_FnVolCount.l0 kj7 (1 + ((l1.length : Int) % 8)) 1 t515 t516 t515 y534) = some r := hY hy534 H
   have Ny534 := am hy534
   clear hy534
   have H' := am H
   clear H
   try go_wp2
   replace HO_521001 := am (Kd.Q_drew HO_521001.out)
   replace BK520 := am (blk_drew BK520.out)
   replace HB := am (below_drew1 HB.out)
   refine start_ (n := 12) (S := fun w' => w'.cell? ⟨gb520, 0, none⟩ = some (.string t515) ∧ w'.cell? ⟨gb520, 1, none⟩ = some (.slice Ao12 t516.length co12)) (ds := []) (bs 12 0) (by kernel_rfl) rfl rfl ⟨ce0 BK520, ce1 BK520⟩ (fun hHeld => ?_); refine with_tabW laws_FnVolCount.tab8 laws_FnVolCount.bits8 (fun HT_ HW_ => ?_)
   generalize wc.drew = w35 at HO_521001 BK520 HB hHeld ⊢
   refine pu 0 53 12 1 rfl rfl ?_
   refine pu 3 56 12 9 rfl rfl ?_
   refine pu 6 59 12 73 rfl rfl ?_
   refine ta2 1 54 12 75 rfl rfl hHeld ?_
   refine ta2 4 57 12 91 rfl rfl hHeld ?_
   refine join_ (σ := Value × Value × Value × Value × Nat) 1 (bs 12 2047) (fun s_ => [(55, s_.1), (58, s_.2.1), (60, s_.2.2.1), (61, s_.2.2.2.1), (9, .pointer (some ⟨s_.2.2.2.2, 0, none⟩)), (62, .agg #[.string t515, s_.2.2.2.1])]) (fun s_ w' => (w'.cell? ⟨gb520, 0, none⟩ = some (.string t515) ∧ w'.cell? ⟨gb520, 1, none⟩ = some (.slice Ao12 t516.length co12)) ∧ (Kd.R (Kd.int .i64) 3 w' w.heap.size (fun k_ => some k_ ≠ (s_.2.2.2.1 : Value).ownBlock ∧ some k_ ≠ (.slice Ao12 t516.length co12 : Value).ownBlock) s_.2.2.1 y531) ∧ (Kd.R (Kd.int .i64) 3 w' w.heap.size (fun k_ => some k_ ≠ (s_.2.2.1 : Value).ownBlock ∧ some k_ ≠ (.slice Ao12 t516.length co12 : Value).ownBlock) s_.2.2.2.1 y534) ∧ (Kd.Q (Kd.int .i64) 3 w' w.heap.size (fun k_ => some k_ ≠ (s_.2.2.1 : Value).ownBlock ∧ some k_ ≠ (s_.2.2.2.1 : Value).ownBlock) (.slice Ao12 t516.length co12) t516) ∧ (w'.heap[gb520]? = some (.cells #[.string t515, .slice Ao12 t516.length co12] 38 (0, 0))) ∧ (w'.heap[s_.2.2.2.2]? = some (.cells #[.string (⟨#[]⟩ : ByteArray), .slice none 0 0] 38 (0, 0))) ∧ (w.heap.size ≤ s_.2.2.2.2) ∧ (w.heap.size ≤ s_.2.2.2.2) ∧ (gb520 ≠ s_.2.2.2.2) ∧ (s_.2.2.2.2 ≠ gb520) ∧ (Below w.heap.size w w')) ?_ ?_
   rotate_left
   · intro hJ2_5_7_8_10
     refine join_ (σ := Value × Value × Value × Value) 2 (bs 12 1023) (fun s_ => [(55, s_.1), (58, s_.2.1), (60, s_.2.2.1), (61, s_.2.2.2), (62, .agg #[.string t515, s_.2.2.2])]) (fun s_ w' => (w'.cell? ⟨gb520, 0, none⟩ = some (.string t515) ∧ w'.cell? ⟨gb520, 1, none⟩ = some (.slice Ao12 t516.length co12)) ∧ (Kd.R (Kd.int .i64) 3 w' w.heap.size (fun k_ => some k_ ≠ (s_.2.2.2 : Value).ownBlock ∧ some k_ ≠ (.slice Ao12 t516.length co12 : Value).ownBlock) s_.2.2.1 y531) ∧ (Kd.R (Kd.int .i64) 3 w' w.heap.size (fun k_ => some k_ ≠ (s_.2.2.1 : Value).ownBlock ∧ some k_ ≠ (.slice Ao12 t516.length co12 : Value).ownBlock) s_.2.2.2 y534) ∧ (Kd.Q (Kd.int .i64) 3 w' w.heap.size (fun k_ => some k_ ≠ (s_.2.2.1 : Value).ownBlock ∧ some k_ ≠ (s_.2.2.2 : Value).ownBlock) (.slice Ao12 t516.length co12) t516) ∧ (w'.heap[gb520]? = some (.cells #[.string t515, .slice Ao12 t516.length co12] 38 (0, 0))) ∧ (Below w.heap.size w w')) ?_ ?_
     rotate_left
     · intro hJ2_5_7_8
       refine join_ (σ := Value × Value × Value × Nat) 3 (bs 12 1279) (fun s_ => [(55, s_.1), (58, s_.2.1), (60, s_.2.2.1), (9, .pointer (some ⟨s_.2.2.2, 0, none⟩))]) (fun s_ w' => (w'.cell? ⟨gb520, 0, none⟩ = some (.string t515) ∧ w'.cell? ⟨gb520, 1, none⟩ = some (.slice Ao12 t516.length co12)) ∧ (Kd.R (Kd.int .i64) 3 w' w.heap.size (fun k_ => some k_ ≠ (s_.2.2.1 : Value).ownBlock ∧ some k_ ≠ (.slice Ao12 t516.length co12 : Value).ownBlock) s_.2.1 y528) ∧ (Kd.R (Kd.int .i64) 3 w' w.heap.size (fun k_ => some k_ ≠ (s_.2.1 : Value).ownBlock ∧ some k_ ≠ (.slice Ao12 t516.length co12 : Value).ownBlock) s_.2.2.1 y531) ∧ (Kd.Q (Kd.int .i64) 3 w' w.heap.size (fun k_ => some k_ ≠ (s_.2.1 : Value).ownBlock ∧ some k_ ≠ (s_.2.2.1 : Value).ownBlock) (.slice Ao12 t516.length co12) t516) ∧ (w'.heap[gb520]? = some (.cells #[.string t515, .slice Ao12 t516.length co12] 38 (0, 0))) ∧ (w'.heap[s_.2.2.2]? = some (.cells #[.string (⟨#[]⟩ : ByteArray), .slice none 0 0] 38 (0, 0))) ∧ (w.heap.size ≤ s_.2.2.2) ∧ (w.heap.size ≤ s_.2.2.2) ∧ (gb520 ≠ s_.2.2.2) ∧ (s_.2.2.2 ≠ gb520) ∧ (Below w.heap.size w w')) ?_ ?_
       rotate_left
       · intro hJ2_5_7_10
         refine join_ (σ := Value × Value × Value) 4 (bs 12 255) (fun s_ => [(55, s_.1), (58, s_.2.1), (60, s_.2.2)]) (fun s_ w' => (w'.cell? ⟨gb520, 0, none⟩ = some (.string t515) ∧ w'.cell? ⟨gb520, 1, none⟩ = some (.slice Ao12 t516.length co12)) ∧ (Kd.R (Kd.int .i64) 3 w' w.heap.size (fun k_ => some k_ ≠ (s_.2.2 : Value).ownBlock ∧ some k_ ≠ (.slice Ao12 t516.length co12 : Value).ownBlock) s_.2.1 y528) ∧ (Kd.R (Kd.int .i64) 3 w' w.heap.size (fun k_ => some k_ ≠ (s_.2.1 : Value).ownBlock ∧ some k_ ≠ (.slice Ao12 t516.length co12 : Value).ownBlock) s_.2.2 y531) ∧ (Kd.Q (Kd.int .i64) 3 w' w.heap.size (fun k_ => some k_ ≠ (s_.2.1 : Value).ownBlock ∧ some k_ ≠ (s_.2.2 : Value).ownBlock) (.slice Ao12 t516.length co12) t516) ∧ (w'.heap[gb520]? = some (.cells #[.string t515, .slice Ao12 t516.length co12] 38 (0, 0))) ∧ (Below w.heap.size w w')) ?_ ?_
         rotate_left
         · intro hJ2_5_7
           refine join_ (σ := Value × Value × Nat) 4 (bs 12 1151) (fun s_ => [(55, s_.1), (58, s_.2.1), (9, .pointer (some ⟨s_.2.2, 0, none⟩))]) (fun s_ w' => (w'.cell? ⟨gb520, 0, none⟩ = some (.string t515) ∧ w'.cell? ⟨gb520, 1, none⟩ = some (.slice Ao12 t516.length co12)) ∧ (Kd.R (Kd.int .i64) 3 w' w.heap.size (fun k_ => some k_ ≠ (.slice Ao12 t516.length co12 : Value).ownBlock) s_.2.1 y528) ∧ (Kd.Q (Kd.int .i64) 3 w' w.heap.size (fun k_ => some k_ ≠ (s_.2.1 : Value).ownBlock) (.slice Ao12 t516.length co12) t516) ∧ (w'.heap[gb520]? = some (.cells #[.string t515, .slice Ao12 t516.length co12] 38 (0, 0))) ∧ (w'.heap[s_.2.2]? = some (.cells #[.string (⟨#[]⟩ : ByteArray), .slice none 0 0] 38 (0, 0))) ∧ (w.heap.size ≤ s_.2.2) ∧ (w.heap.size ≤ s_.2.2) ∧ (gb520 ≠ s_.2.2) ∧ (s_.2.2 ≠ gb520) ∧ (Below w.heap.size w w')) ?_ ?_
           rotate_left
           · intro hJ2_5_10
             refine join_ (σ := Value × Value × Nat) 4 (bs 12 1247) (fun s_ => [(55, s_.1), (60, s_.2.1), (9, .pointer (some ⟨s_.2.2, 0, none⟩))]) (fun s_ w' => (w'.cell? ⟨gb520, 0, none⟩ = some (.string t515) ∧ w'.cell? ⟨gb520, 1, none⟩ = some (.slice Ao12 t516.length co12)) ∧ (Kd.R (Kd.int .i64) 3 w' w.heap.size (fun k_ => some k_ ≠ (s_.2.1 : Value).ownBlock ∧ some k_ ≠ (.slice Ao12 t516.length co12 : Value).ownBlock) s_.1 y525) ∧ (Kd.R (Kd.int .i64) 3 w' w.heap.size (fun k_ => some k_ ≠ (s_.1 : Value).ownBlock ∧ some k_ ≠ (.slice Ao12 t516.length co12 : Value).ownBlock) s_.2.1 y531) ∧ (Kd.Q (Kd.int .i64) 3 w' w.heap.size (fun k_ => some k_ ≠ (s_.1 : Value).ownBlock ∧ some k_ ≠ (s_.2.1 : Value).ownBlock) (.slice Ao12 t516.length co12) t516) ∧ (w'.heap[gb520]? = some (.cells #[.string t515, .slice Ao12 t516.length co12] 38 (0, 0))) ∧ (w'.heap[s_.2.2]? = some (.cells #[.string (⟨#[]⟩ : ByteArray), .slice none 0 0] 38 (0, 0))) ∧ (w.heap.size ≤ s_.2.2) ∧ (w.heap.size ≤ s_.2.2) ∧ (gb520 ≠ s_.2.2) ∧ (s_.2.2 ≠ gb520) ∧ (Below w.heap.size w w')) ?_ ?_
             rotate_left
             · intro hJ2_7_10
               refine join_ (σ := Value × Value) 5 (bs 12 127) (fun s_ => [(55, s_.1), (58, s_.2)]) (fun s_ w' => (w'.cell? ⟨gb520, 0, none⟩ = some (.string t515) ∧ w'.cell? ⟨gb520, 1, none⟩ = some (.slice Ao12 t516.length co12)) ∧ (Kd.R (Kd.int .i64) 3 w' w.heap.size (fun k_ => some k_ ≠ (.slice Ao12 t516.length co12 : Value).ownBlock) s_.2 y528) ∧ (Kd.Q (Kd.int .i64) 3 w' w.heap.size (fun k_ => some k_ ≠ (s_.2 : Value).ownBlock) (.slice Ao12 t516.length co12) t516) ∧ (w'.heap[gb520]? = some (.cells #[.string t515, .slice Ao12 t516.length co12] 38 (0, 0))) ∧ (Below w.heap.size w w')) ?_ ?_
               rotate_left
               · intro hJ2_5
                 refine join_ (σ := Value × Value) 5 (bs 12 223) (fun s_ => [(55, s_.1), (60, s_.2)]) (fun s_ w' => (w'.cell? ⟨gb520, 0, none⟩ = some (.string t515) ∧ w'.cell? ⟨gb520, 1, none⟩ = some (.slice Ao12 t516.length co12)) ∧ (Kd.R (Kd.int .i64) 3 w' w.heap.size (fun k_ => some k_ ≠ (s_.2 : Value).ownBlock ∧ some k_ ≠ (.slice Ao12 t516.length co12 : Value).ownBlock) s_.1 y525) ∧ (Kd.R (Kd.int .i64) 3 w' w.heap.size (fun k_ => some k_ ≠ (s_.1 : Value).ownBlock ∧ some k_ ≠ (.slice Ao12 t516.length co12 : Value).ownBlock) s_.2 y531) ∧ (Kd.Q (Kd.int .i64) 3 w' w.heap.size (fun k_ => some k_ ≠ (s_.1 : Value).ownBlock ∧ some k_ ≠ (s_.2 : Value).ownBlock) (.slice Ao12 t516.length co12) t516) ∧ (w'.heap[gb520]? = some (.cells #[.string t515, .slice Ao12 t516.length co12] 38 (0, 0))) ∧ (Below w.heap.size w w')) ?_ ?_
                 rotate_left
                 · intro hJ2_7
                   refine join_ (σ := Value × Nat) 5 (bs 12 1119) (fun s_ => [(55, s_.1), (9, .pointer (some ⟨s_.2, 0, none⟩))]) (fun s_ w' => (w'.cell? ⟨gb520, 0, none⟩ = some (.string t515) ∧ w'.cell? ⟨gb520, 1, none⟩ = some (.slice Ao12 t516.length co12)) ∧ (Kd.R (Kd.int .i64) 3 w' w.heap.size (fun k_ => some k_ ≠ (.slice Ao12 t516.length co12 : Value).ownBlock) s_.1 y525) ∧ (Kd.Q (Kd.int .i64) 3 w' w.heap.size (fun k_ => some k_ ≠ (s_.1 : Value).ownBlock) (.slice Ao12 t516.length co12) t516) ∧ (w'.heap[gb520]? = some (.cells #[.string t515, .slice Ao12 t516.length co12] 38 (0, 0))) ∧ (w'.heap[s_.2]? = some (.cells #[.string (⟨#[]⟩ : ByteArray), .slice none 0 0] 38 (0, 0))) ∧ (w.heap.size ≤ s_.2) ∧ (w.heap.size ≤ s_.2) ∧ (gb520 ≠ s_.2) ∧ (s_.2 ≠ gb520) ∧ (Below w.heap.size w w')) ?_ ?_
                   rotate_left
                   · intro hJ2_10
                     refine join_ (σ := Value × Nat) 5 (bs 12 1243) (fun s_ => [(60, s_.1), (9, .pointer (some ⟨s_.2, 0, none⟩))]) (fun s_ w' => (w'.cell? ⟨gb520, 0, none⟩ = some (.string t515) ∧ w'.cell? ⟨gb520, 1, none⟩ = some (.slice Ao12 t516.length co12)) ∧ (Kd.R (Kd.int .i64) 3 w' w.heap.size (fun k_ => some k_ ≠ (.slice Ao12 t516.length co12 : Value).ownBlock) s_.1 y531) ∧ (Kd.Q (Kd.int .i64) 3 w' w.heap.size (fun k_ => some k_ ≠ (s_.1 : Value).ownBlock) (.slice Ao12 t516.length co12) t516) ∧ (w'.heap[gb520]? = some (.cells #[.string t515, .slice Ao12 t516.length co12] 38 (0, 0))) ∧ (w'.heap[s_.2]? = some (.cells #[.string (⟨#[]⟩ : ByteArray), .slice none 0 0] 38 (0, 0))) ∧ (w.heap.size ≤ s_.2) ∧ (w.heap.size ≤ s_.2) ∧ (gb520 ≠ s_.2) ∧ (s_.2 ≠ gb520) ∧ (Below w.heap.size w w')) ?_ ?_
                     rotate_left
                     · intro hJ7_10
                       refine join_ (σ := Value) 6 (bs 12 95) (fun s_ => [(55, s_)]) (fun s_ w' => (w'.cell? ⟨gb520, 0, none⟩ = some (.string t515) ∧ w'.cell? ⟨gb520, 1, none⟩ = some (.slice Ao12 t516.length co12)) ∧ (Kd.R (Kd.int .i64) 3 w' w.heap.size (fun k_ => some k_ ≠ (.slice Ao12 t516.length co12 : Value).ownBlock) s_ y525) ∧ (Kd.Q (Kd.int .i64) 3 w' w.heap.size (fun k_ => some k_ ≠ (s_ : Value).ownBlock) (.slice Ao12 t516.length co12) t516) ∧ (w'.heap[gb520]? = some (.cells #[.string t515, .slice Ao12 t516.length co12] 38 (0, 0))) ∧ (Below w.heap.size w w')) ?_ ?_
                       rotate_left
                       · intro hJ2
                         refine join_ (σ := Value) 6 (bs 12 219) (fun s_ => [(60, s_)]) (fun s_ w' => (w'.cell? ⟨gb520, 0, none⟩ = some (.string t515) ∧ w'.cell? ⟨gb520, 1, none⟩ = some (.slice Ao12 t516.length co12)) ∧ (Kd.R (Kd.int .i64) 3 w' w.heap.size (fun k_ => some k_ ≠ (.slice Ao12 t516.length co12 : Value).ownBlock) s_ y531) ∧ (Kd.Q (Kd.int .i64) 3 w' w.heap.size (fun k_ => some k_ ≠ (s_ : Value).ownBlock) (.slice Ao12 t516.length co12) t516) ∧ (w'.heap[gb520]? = some (.cells #[.string t515, .slice Ao12 t516.length co12] 38 (0, 0))) ∧ (Below w.heap.size w w')) ?_ ?_
                         rotate_left
                         · intro hJ7
                           refine join_ (σ := Nat) 6 (bs 12 1115) (fun s_ => [(9, .pointer (some ⟨s_, 0, none⟩))]) (fun s_ w' => (w'.cell? ⟨gb520, 0, none⟩ = some (.string t515) ∧ w'.cell? ⟨gb520, 1, none⟩ = some (.slice Ao12 t516.length co12)) ∧ (Kd.Q (Kd.int .i64) 3 w' w.heap.size (fun _ => True) (.slice Ao12 t516.length co12) t516) ∧ (w'.heap[gb520]? = some (.cells #[.string t515, .slice Ao12 t516.length co12] 38 (0, 0))) ∧ (w'.heap[s_]? = some (.cells #[.string (⟨#[]⟩ : ByteArray), .slice none 0 0] 38 (0, 0))) ∧ (w.heap.size ≤ s_) ∧ (w.heap.size ≤ s_) ∧ (gb520 ≠ s_) ∧ (s_ ≠ gb520) ∧ (Below w.heap.size w w')) ?_ ?_
                           rotate_left
                           · intro hJ10
                             refine three_ (i := 2) (j := 7) (k := 10) (Ni := some 55) (Nj := some 60) (Nk := some 9) (bs 12 95) (bs 12 219) (bs 12 1115) rfl rfl rfl rfl rfl rfl (three_of HT_.out (by kernel_rfl)) (by decide) (by decide) (by decide) (fun K hK => ?_) (fun K hK => ?_) (fun K hK => ?_)
                             · skip
                               refine Kd.R_lit_step (Kd.int .i64) _ 3 ?hg (N := 55) ?hd (xs := ([] : List Int)) (inner := []) (ok := fun _ => True) (okp := fun _ => True) ?hr ?hp (fun _ hk => hk) trivial (Below.refl _ _) (Nat.le_refl _) (by simp) ?_; (case hd => rfl); (case hg => rfl); (case hr => first | (go_simp; done) | (go_simp; rfl)); (case hp => exact (Reps.none _ _))
                               intro v526 w36 ho37 hb hg_ hnew_
                               clear hg_ hnew_
                               (first | rw [← Ny525.out] at ho37 | (simp only [Int.reduceToNat] at ho37; rw [← Ny525.out] at ho37))
                               have HO527 := am (Kd.R_lower (Kd.R_new' ho37 (Kd.Q_lt (by (with_reducible repeat (first | apply Kd.Q_alloc | apply Kd.Q_drewN | apply Kd.Q_drew)); exact HO_521001.out))) (below_size (zb HB)))
                               replace HO_521001 := am (Kd.Q_elder' (by (with_reducible repeat (first | apply Kd.Q_alloc | apply Kd.Q_drewN | apply Kd.Q_drew)); exact HO_521001.out) (Kd.R_base ho37) hb)
                               replace BK520 := am (blk_below (zk BK520) hb)
                               replace HB := am (below_step (zb HB) hb)
                               clear hb ho37
                               refine hK.out _ _ ⟨ce0 BK520, ce1 BK520⟩ (fun hHeld => ?_)
                               clear hK K
                               refine norm_ (a' := ?_) ?_ ?_
                               rotate_left
                               · show Act.put _ (some 55) _ = _
                                 simp only [Act.put, List.setIfInBounds_toArray, List.set_cons_zero, List.set_cons_succ, i64_w, i32_w]
                                 rfl
                               exact norm_ (by first | (simp only [putAll, Act.put, List.setIfInBounds_toArray, List.set_cons_zero, List.set_cons_succ]; done) | (simp only [putAll, Act.put, List.setIfInBounds_toArray, List.set_cons_zero, List.set_cons_succ]; rfl)) (hJ2 (v526) _ ⟨hHeld, (by (with_reducible repeat (first | apply Kd.R_alloc | apply Kd.R_drewN | apply Kd.R_drew)); exact Kd.R_mono HO527.out (fun _ hk => hk.2)), (by (with_reducible repeat (first | apply Kd.Q_alloc | apply Kd.Q_drewN | apply Kd.Q_drew)); exact Kd.Q_mono HO_521001.out (fun _ hk => hk.2)), (zk BK520), (zb HB)⟩)
                             · skip
                               refine Kd.R_lit_step (Kd.int .i64) _ 3 ?hg (N := 60) ?hd (xs := ([1 + ((l1.length : Int) % 8)] : List Int)) (inner := [.int .i64 (1 + ((l1.length : Int) % 8))]) (ok := fun _ => True) (okp := fun _ => True) ?hr ?hp (fun _ hk => hk) trivial (Below.refl _ _) (Nat.le_refl _) (by simp) ?_; (case hd => rfl); (case hg => rfl); (case hr => first | (go_simp; done) | (go_simp; rfl)); (case hp => exact (Reps.one (show Kd.M (Kd.int .i64) _ _ _ (1 + ((l1.length : Int) % 8)) [.int .i64 (1 + ((l1.length : Int) % 8))] from rfl) (Reps.none _ _)))
                               intro v532 w36 ho37 hb hg_ hnew_
                               clear hg_ hnew_
                               (first | rw [← Ny531.out] at ho37 | (simp only [Int.reduceToNat] at ho37; rw [← Ny531.out] at ho37))
                               have HO533 := am (Kd.R_lower (Kd.R_new' ho37 (Kd.Q_lt (by (with_reducible repeat (first | apply Kd.Q_alloc | apply Kd.Q_drewN | apply Kd.Q_drew)); exact HO_521001.out))) (below_size (zb HB)))
                               replace HO_521001 := am (Kd.Q_elder' (by (with_reducible repeat (first | apply Kd.Q_alloc | apply Kd.Q_drewN | apply Kd.Q_drew)); exact HO_521001.out) (Kd.R_base ho37) hb)
                               replace BK520 := am (blk_below (zk BK520) hb)
                               replace HB := am (below_step (zb HB) hb)
                               clear hb ho37
                               refine hK.out _ _ ⟨ce0 BK520, ce1 BK520⟩ (fun hHeld => ?_)
                               clear hK K
                               refine norm_ (a' := ?_) ?_ ?_
                               rotate_left
                               · show Act.put _ (some 60) _ = _
                                 simp only [Act.put, List.setIfInBounds_toArray, List.set_cons_zero, List.set_cons_succ, i64_w, i32_w]
                                 rfl
                               exact norm_ (by first | (simp only [putAll, Act.put, List.setIfInBounds_toArray, List.set_cons_zero, List.set_cons_succ]; done) | (simp only [putAll, Act.put, List.setIfInBounds_toArray, List.set_cons_zero, List.set_cons_succ]; rfl)) (hJ7 (v532) _ ⟨hHeld, (by (with_reducible repeat (first | apply Kd.R_alloc | apply Kd.R_drewN | apply Kd.R_drew)); exact Kd.R_mono HO533.out (fun _ hk => hk.2)), (by (with_reducible repeat (first | apply Kd.Q_alloc | apply Kd.Q_drewN | apply Kd.Q_drew)); exact Kd.Q_mono HO_521001.out (fun _ hk => hk.2)), (zk BK520), (zb HB)⟩)
                             skip
                             refine box_step ?hg (N := 9) ?hd (cs := #[.string (⟨#[]⟩ : ByteArray), .slice none 0 0]) (t := 38) ?hr ?_; (case hd => rfl); (case hg => rfl); (case hr => first | (go_simp; done) | (go_simp; rfl))
                             intro gb537 hg w36 hbox hb
                             replace HO_521001 := am (Kd.Q_below (by (with_reducible repeat (first | apply Kd.Q_alloc | apply Kd.Q_drewN | apply Kd.Q_drew)); exact HO_521001.out) hb)
                             have BK537 := am (hbox)
                             have GW537 := am (zn hg (zb HB))
                             have GE537 := am (zn hg (zb HB))
                             replace HB := am (below_step (zb HB) hb)
                             have NB520_537 := am (zx hg (zk BK520))
                             have NB537_520 := am (zy hg (zk BK520))
                             replace BK520 := am (blk_below (zk BK520) hb)
                             clear hb hbox hg
                             refine hK.out _ _ ⟨ce0 BK520, ce1 BK520⟩ (fun hHeld => ?_)
                             clear hK K
                             refine norm_ (a' := ?_) ?_ ?_
                             rotate_left
                             · show Act.put _ (some 9) _ = _
                               simp only [Act.put, List.setIfInBounds_toArray, List.set_cons_zero, List.set_cons_succ, i64_w, i32_w]
                               rfl
                             exact norm_ (by first | (simp only [putAll, Act.put, List.setIfInBounds_toArray, List.set_cons_zero, List.set_cons_succ]; done) | (simp only [putAll, Act.put, List.setIfInBounds_toArray, List.set_cons_zero, List.set_cons_succ]; rfl)) (hJ10 (gb537) _ ⟨hHeld, (by (with_reducible repeat (first | apply Kd.Q_alloc | apply Kd.Q_drewN | apply Kd.Q_drew)); exact HO_521001.out), (zk BK520), (zk BK537), GW537.out, GE537.out, NB520_537.out, NB537_520.out, (zb HB)⟩)
                           skip
                           rintro gb537 w37 ⟨hS_, h0_, h1_, h2_, h3_, h4_, h5_, h6_, h7_⟩
                           replace HO_521001 : Aside0 (Kd.Q (Kd.int .i64) 3 w37 w.heap.size (fun _ => True) (.slice Ao12 t516.length co12) t516) := ⟨h0_⟩
                           replace BK520 : Aside0 (w37.heap[gb520]? = some (.cells #[.string t515, .slice Ao12 t516.length co12] 38 (0, 0))) := ⟨h1_⟩
                           have BK537 : Aside0 (w37.heap[gb537]? = some (.cells #[.string (⟨#[]⟩ : ByteArray), .slice none 0 0] 38 (0, 0))) := ⟨h2_⟩
                           have GW537 : Aside0 (w.heap.size ≤ gb537) := ⟨h3_⟩
                           have GE537 : Aside0 (w.heap.size ≤ gb537) := ⟨h4_⟩
                           have NB520_537 : Aside0 (gb520 ≠ gb537) := ⟨h5_⟩
                           have NB537_520 : Aside0 (gb537 ≠ gb520) := ⟨h6_⟩
                           replace HB : Aside0 (Below w.heap.size w w37) := ⟨h7_⟩
                           clear h0_ h1_ h2_ h3_ h4_ h5_ h6_ h7_
                           have hHeld : w37.cell? ⟨gb520, 0, none⟩ = some (.string t515) ∧ w37.cell? ⟨gb520, 1, none⟩ = some (.slice Ao12 t516.length co12) := hS_
                           refine norm_ (a' := ?_) ?_ ?_
                           rotate_left
                           · simp only [putAll, Act.put, List.setIfInBounds_toArray, List.set_cons_zero, List.set_cons_succ]
                             rfl
                           refine two_ (i := 2) (j := 7) (Ni := some 55) (Nj := some 60) (bs 12 1119) (bs 12 1243) rfl rfl rfl rfl (two_of HT_.out (by kernel_rfl)) (by decide) (by decide) (fun K hK => ?_) (fun K hK => ?_)
                           · skip
                             refine Kd.R_lit_step (Kd.int .i64) _ 3 ?hg (N := 55) ?hd (xs := ([] : List Int)) (inner := []) (ok := fun _ => True) (okp := fun _ => True) ?hr ?hp (fun _ hk => hk) trivial (Below.refl _ _) (Nat.le_refl _) (by simp) ?_; (case hd => rfl); (case hg => rfl); (case hr => first | (go_simp; done) | (go_simp; rfl)); (case hp => exact (Reps.none _ _))
                             intro v526 w38 ho39 hb hg_ hnew_
                             clear hg_ hnew_
                             (first | rw [← Ny525.out] at ho39 | (simp only [Int.reduceToNat] at ho39; rw [← Ny525.out] at ho39))
                             have HO527 := am (Kd.R_lower (Kd.R_new' ho39 (Kd.Q_lt (by (with_reducible repeat (first | apply Kd.Q_alloc | apply Kd.Q_drewN | apply Kd.Q_drew)); exact HO_521001.out))) (below_size (zb HB)))
                             replace HO_521001 := am (Kd.Q_elder' (by (with_reducible repeat (first | apply Kd.Q_alloc | apply Kd.Q_drewN | apply Kd.Q_drew)); exact HO_521001.out) (Kd.R_base ho39) hb)
                             replace BK520 := am (blk_below (zk BK520) hb)
                             replace BK537 := am (blk_below (zk BK537) hb)
                             replace HB := am (below_step (zb HB) hb)
                             clear hb ho39
                             refine hK.out _ _ ⟨ce0 BK520, ce1 BK520⟩ (fun hHeld => ?_)
                             clear hK K
                             refine norm_ (a' := ?_) ?_ ?_
                             rotate_left
                             · show Act.put _ (some 55) _ = _
                               simp only [Act.put, List.setIfInBounds_toArray, List.set_cons_zero, List.set_cons_succ, i64_w, i32_w]
                               rfl
                             exact norm_ (by first | (simp only [putAll, Act.put, List.setIfInBounds_toArray, List.set_cons_zero, List.set_cons_succ]; done) | (simp only [putAll, Act.put, List.setIfInBounds_toArray, List.set_cons_zero, List.set_cons_succ]; rfl)) (hJ2_10 (v526, gb537) _ ⟨hHeld, (by (with_reducible repeat (first | apply Kd.R_alloc | apply Kd.R_drewN | apply Kd.R_drew)); exact Kd.R_mono HO527.out (fun _ hk => hk.2)), (by (with_reducible repeat (first | apply Kd.Q_alloc | apply Kd.Q_drewN | apply Kd.Q_drew)); exact Kd.Q_mono HO_521001.out (fun _ hk => hk.2)), (zk BK520), (zk BK537), GW537.out, GE537.out, NB520_537.out, NB537_520.out, (zb HB)⟩)
                           skip
                           refine Kd.R_lit_step (Kd.int .i64) _ 3 ?hg (N := 60) ?hd (xs := ([1 + ((l1.length : Int) % 8)] : List Int)) (inner := [.int .i64 (1 + ((l1.length : Int) % 8))]) (ok := fun _ => True) (okp := fun _ => True) ?hr ?hp (fun _ hk => hk) trivial (Below.refl _ _) (Nat.le_refl _) (by simp) ?_; (case hd => rfl); (case hg => rfl); (case hr => first | (go_simp; done) | (go_simp; rfl)); (case hp => exact (Reps.one (show Kd.M (Kd.int .i64) _ _ _ (1 + ((l1.length : Int) % 8)) [.int .i64 (1 + ((l1.length : Int) % 8))] from rfl) (Reps.none _ _)))
                           intro v532 w38 ho39 hb hg_ hnew_
                           clear hg_ hnew_
                           (first | rw [← Ny531.out] at ho39 | (simp only [Int.reduceToNat] at ho39; rw [← Ny531.out] at ho39))
                           have HO533 := am (Kd.R_lower (Kd.R_new' ho39 (Kd.Q_lt (by (with_reducible repeat (first | apply Kd.Q_alloc | apply Kd.Q_drewN | apply Kd.Q_drew)); exact HO_521001.out))) (below_size (zb HB)))
                           replace HO_521001 := am (Kd.Q_elder' (by (with_reducible repeat (first | apply Kd.Q_alloc | apply Kd.Q_drewN | apply Kd.Q_drew)); exact HO_521001.out) (Kd.R_base ho39) hb)
                           replace BK520 := am (blk_below (zk BK520) hb)
                           replace BK537 := am (blk_below (zk BK537) hb)
                           replace HB := am (below_step (zb HB) hb)
                           clear hb ho39
                           refine hK.out _ _ ⟨ce0 BK520, ce1 BK520⟩ (fun hHeld => ?_)
                           clear hK K
                           refine norm_ (a' := ?_) ?_ ?_
                           rotate_left
                           · show Act.put _ (some 60) _ = _
                             simp only [Act.put, List.setIfInBounds_toArray, List.set_cons_zero, List.set_cons_succ, i64_w, i32_w]
                             rfl
                           exact norm_ (by first | (simp only [putAll, Act.put, List.setIfInBounds_toArray, List.set_cons_zero, List.set_cons_succ]; done) | (simp only [putAll, Act.put, List.setIfInBounds_toArray, List.set_cons_zero, List.set_cons_succ]; rfl)) (hJ7_10 (v532, gb537) _ ⟨hHeld, (by (with_reducible repeat (first | apply Kd.R_alloc | apply Kd.R_drewN | apply Kd.R_drew)); exact Kd.R_mono HO533.out (fun _ hk => hk.2)), (by (with_reducible repeat (first | apply Kd.Q_alloc | apply Kd.Q_drewN | apply Kd.Q_drew)); exact Kd.Q_mono HO_521001.out (fun _ hk => hk.2)), (zk BK520), (zk BK537), GW537.out, GE537.out, NB520_537.out, NB537_520.out, (zb HB)⟩)
                         skip
                         rintro v532 w38 ⟨hS_, h0_, h1_, h2_, h3_⟩
                         have HO533 : Aside0 (Kd.R (Kd.int .i64) 3 w38 w.heap.size (fun k_ => some k_ ≠ (.slice Ao12 t516.length co12 : Value).ownBlock) v532 y531) := ⟨h0_⟩
                         replace HO_521001 : Aside0 (Kd.Q (Kd.int .i64) 3 w38 w.heap.size (fun k_ => some k_ ≠ (v532 : Value).ownBlock) (.slice Ao12 t516.length co12) t516) := ⟨h1_⟩
                         replace BK520 : Aside0 (w38.heap[gb520]? = some (.cells #[.string t515, .slice Ao12 t516.length co12] 38 (0, 0))) := ⟨h2_⟩
                         replace HB : Aside0 (Below w.heap.size w w38) := ⟨h3_⟩
                         clear h0_ h1_ h2_ h3_
                         have hHeld : w38.cell? ⟨gb520, 0, none⟩ = some (.string t515) ∧ w38.cell? ⟨gb520, 1, none⟩ = some (.slice Ao12 t516.length co12) := hS_
                         refine norm_ (a' := ?_) ?_ ?_
                         rotate_left
                         · simp only [putAll, Act.put, List.setIfInBounds_toArray, List.set_cons_zero, List.set_cons_succ]
                           rfl
                         refine two_ (i := 2) (j := 10) (Ni := some 55) (Nj := some 9) (bs 12 223) (bs 12 1243) rfl rfl rfl rfl (two_of HT_.out (by kernel_rfl)) (by decide) (by decide) (fun K hK => ?_) (fun K hK => ?_)
                         · skip
                           refine Kd.R_lit_step (Kd.int .i64) _ 3 ?hg (N := 55) ?hd (xs := ([] : List Int)) (inner := []) (ok := fun _ => True) (okp := fun _ => True) ?hr ?hp (fun _ hk => hk) trivial (Below.refl _ _) (Nat.le_refl _) (by simp) ?_; (case hd => rfl); (case hg => rfl); (case hr => first | (go_simp; done) | (go_simp; rfl)); (case hp => exact (Reps.none _ _))
                           intro v526 w39 ho40 hb hg_ hnew_
                           clear hg_ hnew_
                           (first | rw [← Ny525.out] at ho40 | (simp only [Int.reduceToNat] at ho40; rw [← Ny525.out] at ho40))
                           have HO527 := am (Kd.R_lower (Kd.R_new' (Kd.R_new' ho40 (Kd.Q_lt (by (with_reducible repeat (first | apply Kd.Q_alloc | apply Kd.Q_drewN | apply Kd.Q_drew)); exact HO_521001.out))) (Kd.R_lt (zr HO533))) (below_size (zb HB)))
                           replace HO_521001 := am (Kd.Q_elder' (by (with_reducible repeat (first | apply Kd.Q_alloc | apply Kd.Q_drewN | apply Kd.Q_drew)); exact HO_521001.out) (Kd.R_base ho40) hb)
                           replace HO533 := am (Kd.R_elder' (zr HO533) (Kd.R_base ho40) hb)
                           replace BK520 := am (blk_below (zk BK520) hb)
                           replace HB := am (below_step (zb HB) hb)
                           clear hb ho40
                           refine hK.out _ _ ⟨ce0 BK520, ce1 BK520⟩ (fun hHeld => ?_)
                           clear hK K
                           refine norm_ (a' := ?_) ?_ ?_
                           rotate_left
                           · show Act.put _ (some 55) _ = _
                             simp only [Act.put, List.setIfInBounds_toArray, List.set_cons_zero, List.set_cons_succ, i64_w, i32_w]
                             rfl
                           exact norm_ (by first | (simp only [putAll, Act.put, List.setIfInBounds_toArray, List.set_cons_zero, List.set_cons_succ]; done) | (simp only [putAll, Act.put, List.setIfInBounds_toArray, List.set_cons_zero, List.set_cons_succ]; rfl)) (hJ2_7 (v526, v532) _ ⟨hHeld, (by (with_reducible repeat (first | apply Kd.R_alloc | apply Kd.R_drewN | apply Kd.R_drew)); exact Kd.R_mono HO527.out (fun _ hk => ⟨hk.2, hk.1.2⟩)), (by (with_reducible repeat (first | apply Kd.R_alloc | apply Kd.R_drewN | apply Kd.R_drew)); exact Kd.R_mono HO533.out (fun _ hk => ⟨hk.2, hk.1⟩)), (by (with_reducible repeat (first | apply Kd.Q_alloc | apply Kd.Q_drewN | apply Kd.Q_drew)); exact Kd.Q_mono HO_521001.out (fun _ hk => ⟨hk.2, hk.1⟩)), (zk BK520), (zb HB)⟩)
                         skip
                         refine box_step ?hg (N := 9) ?hd (cs := #[.string (⟨#[]⟩ : ByteArray), .slice none 0 0]) (t := 38) ?hr ?_; (case hd => rfl); (case hg => rfl); (case hr => first | (go_simp; done) | (go_simp; rfl))
                         intro gb537 hg w39 hbox hb
                         replace HO_521001 := am (Kd.Q_below (by (with_reducible repeat (first | apply Kd.Q_alloc | apply Kd.Q_drewN | apply Kd.Q_drew)); exact HO_521001.out) hb)
                         replace HO533 := am (Kd.R_below (zr HO533) hb)
                         have BK537 := am (hbox)
                         have GW537 := am (zn hg (zb HB))
                         have GE537 := am (zn hg (zb HB))
                         replace HB := am (below_step (zb HB) hb)
                         have NB520_537 := am (zx hg (zk BK520))
                         have NB537_520 := am (zy hg (zk BK520))
                         replace BK520 := am (blk_below (zk BK520) hb)
                         clear hb hbox hg
                         refine hK.out _ _ ⟨ce0 BK520, ce1 BK520⟩ (fun hHeld => ?_)
                         clear hK K
                         refine norm_ (a' := ?_) ?_ ?_
                         rotate_left
                         · show Act.put _ (some 9) _ = _
                           simp only [Act.put, List.setIfInBounds_toArray, List.set_cons_zero, List.set_cons_succ, i64_w, i32_w]
                           rfl
                         exact norm_ (by first | (simp only [putAll, Act.put, List.setIfInBounds_toArray, List.set_cons_zero, List.set_cons_succ]; done) | (simp only [putAll, Act.put, List.setIfInBounds_toArray, List.set_cons_zero, List.set_cons_succ]; rfl)) (hJ7_10 (v532, gb537) _ ⟨hHeld, (zr HO533), (by (with_reducible repeat (first | apply Kd.Q_alloc | apply Kd.Q_drewN | apply Kd.Q_drew)); exact HO_521001.out), (zk BK520), (zk BK537), GW537.out, GE537.out, NB520_537.out, NB537_520.out, (zb HB)⟩)
                       skip
                       rintro v526 w38 ⟨hS_, h0_, h1_, h2_, h3_⟩
                       have HO527 : Aside0 (Kd.R (Kd.int .i64) 3 w38 w.heap.size (fun k_ => some k_ ≠ (.slice Ao12 t516.length co12 : Value).ownBlock) v526 y525) := ⟨h0_⟩
                       replace HO_521001 : Aside0 (Kd.Q (Kd.int .i64) 3 w38 w.heap.size (fun k_ => some k_ ≠ (v526 : Value).ownBlock) (.slice Ao12 t516.length co12) t516) := ⟨h1_⟩
                       replace BK520 : Aside0 (w38.heap[gb520]? = some (.cells #[.string t515, .slice Ao12 t516.length co12] 38 (0, 0))) := ⟨h2_⟩
                       replace HB : Aside0 (Below w.heap.size w w38) := ⟨h3_⟩
                       clear h0_ h1_ h2_ h3_
                       have hHeld : w38.cell? ⟨gb520, 0, none⟩ = some (.string t515) ∧ w38.cell? ⟨gb520, 1, none⟩ = some (.slice Ao12 t516.length co12) := hS_
                       refine norm_ (a' := ?_) ?_ ?_
                       rotate_left
                       · simp only [putAll, Act.put, List.setIfInBounds_toArray, List.set_cons_zero, List.set_cons_succ]
                         rfl
                       refine three_ (i := 5) (j := 7) (k := 10) (Ni := some 58) (Nj := some 60) (Nk := some 9) (bs 12 127) (bs 12 223) (bs 12 1119) rfl rfl rfl rfl rfl rfl (three_of HT_.out (by kernel_rfl)) (by decide) (by decide) (by decide) (fun K hK => ?_) (fun K hK => ?_) (fun K hK => ?_)
                       · skip
                         refine Kd.R_append_rows_step (Kd.int .i64) (w0 := w) w.heap.size (by rfl) (.tmp 55) (.tmp 57) 36 3 (.int .i64 0) 8 rfl Try.underlying36 info3 rfl (by decide) (by omega) v526 y525 t516 _ _ _ (fun k_ => some k_ ≠ (.slice Ao12 t516.length co12 : Value).ownBlock) (fun _ => False) rfl rfl ?aO ?aR (fun _ _ h => h) (fun _ h => h.elim) ?aF ?aB ?aS ?aL ?_
                         (case aR => repeat (first | exact (Kd.Q_reads' HO_521001.out).2.2 | (with_reducible refine Kd.C_alloc ?_ _) | (with_reducible refine Kd.C_drewN ?_ _) | (with_reducible refine Kd.C_drew ?_)))
                         (case aB => exact (zb HB))
                         (case aF => exact (fun k_ hk => Kd.fresh' (Kd.Q_lt (by (with_reducible repeat (first | apply Kd.Q_alloc | apply Kd.Q_drewN | apply Kd.Q_drew)); exact HO_521001.out)) k_ hk))
                         (case aO => exact (zr HO527))
                         (case aS => exact (below_size (zb HB)))
                         (case aL => have := LMc33.out; omega)
                         intro v529 w39 ho hb hg hat
                         rw [← Ny528.out] at ho
                         replace HO_521001 := am (Kd.Q_after (ok := (fun _ => True)) (by (with_reducible repeat (first | apply Kd.Q_alloc | apply Kd.Q_drewN | apply Kd.Q_drew)); exact Kd.Q_mono HO_521001.out (fun _ hk => ⟨trivial, hk⟩)) hg hat)
                         replace BK520 := am (blk_grown (zk BK520) hg (Kd.R_ne HO527.out BK520.out (by decide)))
                         replace HB := am (hb)
                         have HO530 := am (ho)
                         clear HO527 ho hb hg hat
                         refine hK.out _ _ ⟨ce0 BK520, ce1 BK520⟩ (fun hHeld => ?_)
                         clear hK K
                         refine norm_ (a' := ?_) ?_ ?_
                         rotate_left
                         · show Act.put _ (some 58) _ = _
                           simp only [Act.put, List.setIfInBounds_toArray, List.set_cons_zero, List.set_cons_succ, i64_w, i32_w]
                           rfl
                         exact norm_ (by first | (simp only [putAll, Act.put, List.setIfInBounds_toArray, List.set_cons_zero, List.set_cons_succ]; done) | (simp only [putAll, Act.put, List.setIfInBounds_toArray, List.set_cons_zero, List.set_cons_succ]; rfl)) (hJ2_5 (v526, v529) _ ⟨hHeld, (zr HO530), (by (with_reducible repeat (first | apply Kd.Q_alloc | apply Kd.Q_drewN | apply Kd.Q_drew)); exact Kd.Q_mono HO_521001.out (fun _ hk => hk.2)), (zk BK520), (zb HB)⟩)
                       · skip
                         refine Kd.R_lit_step (Kd.int .i64) _ 3 ?hg (N := 60) ?hd (xs := ([1 + ((l1.length : Int) % 8)] : List Int)) (inner := [.int .i64 (1 + ((l1.length : Int) % 8))]) (ok := fun _ => True) (okp := fun _ => True) ?hr ?hp (fun _ hk => hk) trivial (Below.refl _ _) (Nat.le_refl _) (by simp) ?_; (case hd => rfl); (case hg => rfl); (case hr => first | (go_simp; done) | (go_simp; rfl)); (case hp => exact (Reps.one (show Kd.M (Kd.int .i64) _ _ _ (1 + ((l1.length : Int) % 8)) [.int .i64 (1 + ((l1.length : Int) % 8))] from rfl) (Reps.none _ _)))
                         intro v532 w39 ho40 hb hg_ hnew_
                         clear hg_ hnew_
                         (first | rw [← Ny531.out] at ho40 | (simp only [Int.reduceToNat] at ho40; rw [← Ny531.out] at ho40))
                         have HO533 := am (Kd.R_lower (Kd.R_new' (Kd.R_new' ho40 (Kd.Q_lt (by (with_reducible repeat (first | apply Kd.Q_alloc | apply Kd.Q_drewN | apply Kd.Q_drew)); exact HO_521001.out))) (Kd.R_lt (zr HO527))) (below_size (zb HB)))
                         replace HO_521001 := am (Kd.Q_elder' (by (with_reducible repeat (first | apply Kd.Q_alloc | apply Kd.Q_drewN | apply Kd.Q_drew)); exact HO_521001.out) (Kd.R_base ho40) hb)
                         replace HO527 := am (Kd.R_elder' (zr HO527) (Kd.R_base ho40) hb)
                         replace BK520 := am (blk_below (zk BK520) hb)
                         replace HB := am (below_step (zb HB) hb)
                         clear hb ho40
                         refine hK.out _ _ ⟨ce0 BK520, ce1 BK520⟩ (fun hHeld => ?_)
                         clear hK K
                         refine norm_ (a' := ?_) ?_ ?_
                         rotate_left
                         · show Act.put _ (some 60) _ = _
                           simp only [Act.put, List.setIfInBounds_toArray, List.set_cons_zero, List.set_cons_succ, i64_w, i32_w]
                           rfl
                         exact norm_ (by first | (simp only [putAll, Act.put, List.setIfInBounds_toArray, List.set_cons_zero, List.set_cons_succ]; done) | (simp only [putAll, Act.put, List.setIfInBounds_toArray, List.set_cons_zero, List.set_cons_succ]; rfl)) (hJ2_7 (v526, v532) _ ⟨hHeld, (by (with_reducible repeat (first | apply Kd.R_alloc | apply Kd.R_drewN | apply Kd.R_drew)); exact Kd.R_mono HO527.out (fun _ hk => ⟨hk.2, hk.1⟩)), (by (with_reducible repeat (first | apply Kd.R_alloc | apply Kd.R_drewN | apply Kd.R_drew)); exact Kd.R_mono HO533.out (fun _ hk => ⟨hk.2, hk.1.2⟩)), (by (with_reducible repeat (first | apply Kd.Q_alloc | apply Kd.Q_drewN | apply Kd.Q_drew)); exact HO_521001.out), (zk BK520), (zb HB)⟩)
                       skip
                       refine box_step ?hg (N := 9) ?hd (cs := #[.string (⟨#[]⟩ : ByteArray), .slice none 0 0]) (t := 38) ?hr ?_; (case hd => rfl); (case hg => rfl); (case hr => first | (go_simp; done) | (go_simp; rfl))
                       intro gb537 hg w39 hbox hb
                       replace HO_521001 := am (Kd.Q_below (by (with_reducible repeat (first | apply Kd.Q_alloc | apply Kd.Q_drewN | apply Kd.Q_drew)); exact HO_521001.out) hb)
                       replace HO527 := am (Kd.R_below (zr HO527) hb)
                       have BK537 := am (hbox)
                       have GW537 := am (zn hg (zb HB))
                       have GE537 := am (zn hg (zb HB))
                       replace HB := am (below_step (zb HB) hb)
                       have NB520_537 := am (zx hg (zk BK520))
                       have NB537_520 := am (zy hg (zk BK520))
                       replace BK520 := am (blk_below (zk BK520) hb)
                       clear hb hbox hg
                       refine hK.out _ _ ⟨ce0 BK520, ce1 BK520⟩ (fun hHeld => ?_)
                       clear hK K
                       refine norm_ (a' := ?_) ?_ ?_
                       rotate_left
                       · show Act.put _ (some 9) _ = _
                         simp only [Act.put, List.setIfInBounds_toArray, List.set_cons_zero, List.set_cons_succ, i64_w, i32_w]
                         rfl
                       exact norm_ (by first | (simp only [putAll, Act.put, List.setIfInBounds_toArray, List.set_cons_zero, List.set_cons_succ]; done) | (simp only [putAll, Act.put, List.setIfInBounds_toArray, List.set_cons_zero, List.set_cons_succ]; rfl)) (hJ2_10 (v526, gb537) _ ⟨hHeld, (zr HO527), (by (with_reducible repeat (first | apply Kd.Q_alloc | apply Kd.Q_drewN | apply Kd.Q_drew)); exact HO_521001.out), (zk BK520), (zk BK537), GW537.out, GE537.out, NB520_537.out, NB537_520.out, (zb HB)⟩)
                     skip
                     rintro ⟨v532, gb537⟩ w39 ⟨hS_, h0_, h1_, h2_, h3_, h4_, h5_, h6_, h7_, h8_⟩
                     have HO533 : Aside0 (Kd.R (Kd.int .i64) 3 w39 w.heap.size (fun k_ => some k_ ≠ (.slice Ao12 t516.length co12 : Value).ownBlock) v532 y531) := ⟨h0_⟩
                     replace HO_521001 : Aside0 (Kd.Q (Kd.int .i64) 3 w39 w.heap.size (fun k_ => some k_ ≠ (v532 : Value).ownBlock) (.slice Ao12 t516.length co12) t516) := ⟨h1_⟩
                     replace BK520 : Aside0 (w39.heap[gb520]? = some (.cells #[.string t515, .slice Ao12 t516.length co12] 38 (0, 0))) := ⟨h2_⟩
                     have BK537 : Aside0 (w39.heap[gb537]? = some (.cells #[.string (⟨#[]⟩ : ByteArray), .slice none 0 0] 38 (0, 0))) := ⟨h3_⟩
                     have GW537 : Aside0 (w.heap.size ≤ gb537) := ⟨h4_⟩
                     have GE537 : Aside0 (w.heap.size ≤ gb537) := ⟨h5_⟩
                     have NB520_537 : Aside0 (gb520 ≠ gb537) := ⟨h6_⟩
                     have NB537_520 : Aside0 (gb537 ≠ gb520) := ⟨h7_⟩
                     replace HB : Aside0 (Below w.heap.size w w39) := ⟨h8_⟩
                     clear h0_ h1_ h2_ h3_ h4_ h5_ h6_ h7_ h8_
                     have hHeld : w39.cell? ⟨gb520, 0, none⟩ = some (.string t515) ∧ w39.cell? ⟨gb520, 1, none⟩ = some (.slice Ao12 t516.length co12) := hS_
                     refine norm_ (a' := ?_) ?_ ?_
                     rotate_left
                     · simp only [putAll, Act.put, List.setIfInBounds_toArray, List.set_cons_zero, List.set_cons_succ]
                       rfl
                     refine oz 2 12 1247 rfl rfl (fun K hK => ?_)
                     refine Kd.R_lit_step (Kd.int .i64) _ 3 ?hg (N := 55) ?hd (xs := ([] : List Int)) (inner := []) (ok := fun _ => True) (okp := fun _ => True) ?hr ?hp (fun _ hk => hk) trivial (Below.refl _ _) (Nat.le_refl _) (by simp) ?_; (case hd => rfl); (case hg => rfl); (case hr => first | (go_simp; done) | (go_simp; rfl)); (case hp => exact (Reps.none _ _))
                     intro v526 w40 ho41 hb hg_ hnew_
                     clear hg_ hnew_
                     (first | rw [← Ny525.out] at ho41 | (simp only [Int.reduceToNat] at ho41; rw [← Ny525.out] at ho41))
                     have HO527 := am (Kd.R_lower (Kd.R_new' (Kd.R_new' ho41 (Kd.Q_lt (by (with_reducible repeat (first | apply Kd.Q_alloc | apply Kd.Q_drewN | apply Kd.Q_drew)); exact HO_521001.out))) (Kd.R_lt (zr HO533))) (below_size (zb HB)))
                     replace HO_521001 := am (Kd.Q_elder' (by (with_reducible repeat (first | apply Kd.Q_alloc | apply Kd.Q_drewN | apply Kd.Q_drew)); exact HO_521001.out) (Kd.R_base ho41) hb)
                     replace HO533 := am (Kd.R_elder' (zr HO533) (Kd.R_base ho41) hb)
                     replace BK520 := am (blk_below (zk BK520) hb)
                     replace BK537 := am (blk_below (zk BK537) hb)
                     replace HB := am (below_step (zb HB) hb)
                     clear hb ho41
                     refine hK.out _ _ ⟨ce0 BK520, ce1 BK520⟩ (fun hHeld => ?_)
                     clear hK K
                     refine norm_ (a' := ?_) ?_ ?_
                     rotate_left
                     · show Act.put _ (some 55) _ = _
                       simp only [Act.put, List.setIfInBounds_toArray, List.set_cons_zero, List.set_cons_succ, i64_w, i32_w]
                       rfl
                     exact norm_ (by first | (simp only [putAll, Act.put, List.setIfInBounds_toArray, List.set_cons_zero, List.set_cons_succ]; done) | (simp only [putAll, Act.put, List.setIfInBounds_toArray, List.set_cons_zero, List.set_cons_succ]; rfl)) (hJ2_7_10 (v526, v532, gb537) _ ⟨hHeld, (by (with_reducible repeat (first | apply Kd.R_alloc | apply Kd.R_drewN | apply Kd.R_drew)); exact Kd.R_mono HO527.out (fun _ hk => ⟨hk.2, hk.1.2⟩)), (by (with_reducible repeat (first | apply Kd.R_alloc | apply Kd.R_drewN | apply Kd.R_drew)); exact Kd.R_mono HO533.out (fun _ hk => ⟨hk.2, hk.1⟩)), (by (with_reducible repeat (first | apply Kd.Q_alloc | apply Kd.Q_drewN | apply Kd.Q_drew)); exact Kd.Q_mono HO_521001.out (fun _ hk => ⟨hk.2, hk.1⟩)), (zk BK520), (zk BK537), GW537.out, GE537.out, NB520_537.out, NB537_520.out, (zb HB)⟩)
                   skip
                   rintro ⟨v526, gb537⟩ w39 ⟨hS_, h0_, h1_, h2_, h3_, h4_, h5_, h6_, h7_, h8_⟩
                   have HO527 : Aside0 (Kd.R (Kd.int .i64) 3 w39 w.heap.size (fun k_ => some k_ ≠ (.slice Ao12 t516.length co12 : Value).ownBlock) v526 y525) := ⟨h0_⟩
                   replace HO_521001 : Aside0 (Kd.Q (Kd.int .i64) 3 w39 w.heap.size (fun k_ => some k_ ≠ (v526 : Value).ownBlock) (.slice Ao12 t516.length co12) t516) := ⟨h1_⟩
                   replace BK520 : Aside0 (w39.heap[gb520]? = some (.cells #[.string t515, .slice Ao12 t516.length co12] 38 (0, 0))) := ⟨h2_⟩
                   have BK537 : Aside0 (w39.heap[gb537]? = some (.cells #[.string (⟨#[]⟩ : ByteArray), .slice none 0 0] 38 (0, 0))) := ⟨h3_⟩
                   have GW537 : Aside0 (w.heap.size ≤ gb537) := ⟨h4_⟩
                   have GE537 : Aside0 (w.heap.size ≤ gb537) := ⟨h5_⟩
                   have NB520_537 : Aside0 (gb520 ≠ gb537) := ⟨h6_⟩
                   have NB537_520 : Aside0 (gb537 ≠ gb520) := ⟨h7_⟩
                   replace HB : Aside0 (Below w.heap.size w w39) := ⟨h8_⟩
                   clear h0_ h1_ h2_ h3_ h4_ h5_ h6_ h7_ h8_
                   have hHeld : w39.cell? ⟨gb520, 0, none⟩ = some (.string t515) ∧ w39.cell? ⟨gb520, 1, none⟩ = some (.slice Ao12 t516.length co12) := hS_
                   refine norm_ (a' := ?_) ?_ ?_
                   rotate_left
                   · simp only [putAll, Act.put, List.setIfInBounds_toArray, List.set_cons_zero, List.set_cons_succ]
                     rfl
                   refine two_ (i := 5) (j := 7) (Ni := some 58) (Nj := some 60) (bs 12 1151) (bs 12 1247) rfl rfl rfl rfl (two_of HT_.out (by kernel_rfl)) (by decide) (by decide) (fun K hK => ?_) (fun K hK => ?_)
                   · skip
                     refine Kd.R_append_rows_step (Kd.int .i64) (w0 := w) w.heap.size (by rfl) (.tmp 55) (.tmp 57) 36 3 (.int .i64 0) 8 rfl Try.underlying36 info3 rfl (by decide) (by omega) v526 y525 t516 _ _ _ (fun k_ => some k_ ≠ (.slice Ao12 t516.length co12 : Value).ownBlock) (fun _ => False) rfl rfl ?aO ?aR (fun _ _ h => h) (fun _ h => h.elim) ?aF ?aB ?aS ?aL ?_
                     (case aR => repeat (first | exact (Kd.Q_reads' HO_521001.out).2.2 | (with_reducible refine Kd.C_alloc ?_ _) | (with_reducible refine Kd.C_drewN ?_ _) | (with_reducible refine Kd.C_drew ?_)))
                     (case aB => exact (zb HB))
                     (case aF => exact (fun k_ hk => Kd.fresh' (Kd.Q_lt (by (with_reducible repeat (first | apply Kd.Q_alloc | apply Kd.Q_drewN | apply Kd.Q_drew)); exact HO_521001.out)) k_ hk))
                     (case aO => exact (zr HO527))
                     (case aS => exact (below_size (zb HB)))
                     (case aL => have := LMc33.out; omega)
                     intro v529 w40 ho hb hg hat
                     rw [← Ny528.out] at ho
                     replace HO_521001 := am (Kd.Q_after (ok := (fun _ => True)) (by (with_reducible repeat (first | apply Kd.Q_alloc | apply Kd.Q_drewN | apply Kd.Q_drew)); exact Kd.Q_mono HO_521001.out (fun _ hk => ⟨trivial, hk⟩)) hg hat)
                     replace BK520 := am (blk_grown (zk BK520) hg (Kd.R_ne HO527.out BK520.out (by decide)))
                     replace BK537 := am (blk_grown (zk BK537) hg (Kd.R_ne HO527.out BK537.out (by decide)))
                     replace HB := am (hb)
                     have HO530 := am (ho)
                     clear HO527 ho hb hg hat
                     refine hK.out _ _ ⟨ce0 BK520, ce1 BK520⟩ (fun hHeld => ?_)
                     clear hK K
                     refine norm_ (a' := ?_) ?_ ?_
                     rotate_left
                     · show Act.put _ (some 58) _ = _
                       simp only [Act.put, List.setIfInBounds_toArray, List.set_cons_zero, List.set_cons_succ, i64_w, i32_w]
                       rfl
                     exact norm_ (by first | (simp only [putAll, Act.put, List.setIfInBounds_toArray, List.set_cons_zero, List.set_cons_succ]; done) | (simp only [putAll, Act.put, List.setIfInBounds_toArray, List.set_cons_zero, List.set_cons_succ]; rfl)) (hJ2_5_10 (v526, v529, gb537) _ ⟨hHeld, (zr HO530), (by (with_reducible repeat (first | apply Kd.Q_alloc | apply Kd.Q_drewN | apply Kd.Q_drew)); exact Kd.Q_mono HO_521001.out (fun _ hk => hk.2)), (zk BK520), (zk BK537), GW537.out, GE537.out, NB520_537.out, NB537_520.out, (zb HB)⟩)
                   skip
                   refine Kd.R_lit_step (Kd.int .i64) _ 3 ?hg (N := 60) ?hd (xs := ([1 + ((l1.length : Int) % 8)] : List Int)) (inner := [.int .i64 (1 + ((l1.length : Int) % 8))]) (ok := fun _ => True) (okp := fun _ => True) ?hr ?hp (fun _ hk => hk) trivial (Below.refl _ _) (Nat.le_refl _) (by simp) ?_; (case hd => rfl); (case hg => rfl); (case hr => first | (go_simp; done) | (go_simp; rfl)); (case hp => exact (Reps.one (show Kd.M (Kd.int .i64) _ _ _ (1 + ((l1.length : Int) % 8)) [.int .i64 (1 + ((l1.length : Int) % 8))] from rfl) (Reps.none _ _)))
                   intro v532 w40 ho41 hb hg_ hnew_
                   clear hg_ hnew_
                   (first | rw [← Ny531.out] at ho41 | (simp only [Int.reduceToNat] at ho41; rw [← Ny531.out] at ho41))
                   have HO533 := am (Kd.R_lower (Kd.R_new' (Kd.R_new' ho41 (Kd.Q_lt (by (with_reducible repeat (first | apply Kd.Q_alloc | apply Kd.Q_drewN | apply Kd.Q_drew)); exact HO_521001.out))) (Kd.R_lt (zr HO527))) (below_size (zb HB)))
                   replace HO_521001 := am (Kd.Q_elder' (by (with_reducible repeat (first | apply Kd.Q_alloc | apply Kd.Q_drewN | apply Kd.Q_drew)); exact HO_521001.out) (Kd.R_base ho41) hb)
                   replace HO527 := am (Kd.R_elder' (zr HO527) (Kd.R_base ho41) hb)
                   replace BK520 := am (blk_below (zk BK520) hb)
                   replace BK537 := am (blk_below (zk BK537) hb)
                   replace HB := am (below_step (zb HB) hb)
                   clear hb ho41
                   refine hK.out _ _ ⟨ce0 BK520, ce1 BK520⟩ (fun hHeld => ?_)
                   clear hK K
                   refine norm_ (a' := ?_) ?_ ?_
                   rotate_left
                   · show Act.put _ (some 60) _ = _
                     simp only [Act.put, List.setIfInBounds_toArray, List.set_cons_zero, List.set_cons_succ, i64_w, i32_w]
                     rfl
                   exact norm_ (by first | (simp only [putAll, Act.put, List.setIfInBounds_toArray, List.set_cons_zero, List.set_cons_succ]; done) | (simp only [putAll, Act.put, List.setIfInBounds_toArray, List.set_cons_zero, List.set_cons_succ]; rfl)) (hJ2_7_10 (v526, v532, gb537) _ ⟨hHeld, (by (with_reducible repeat (first | apply Kd.R_alloc | apply Kd.R_drewN | apply Kd.R_drew)); exact Kd.R_mono HO527.out (fun _ hk => ⟨hk.2, hk.1⟩)), (by (with_reducible repeat (first | apply Kd.R_alloc | apply Kd.R_drewN | apply Kd.R_drew)); exact Kd.R_mono HO533.out (fun _ hk => ⟨hk.2, hk.1.2⟩)), (by (with_reducible repeat (first | apply Kd.Q_alloc | apply Kd.Q_drewN | apply Kd.Q_drew)); exact HO_521001.out), (zk BK520), (zk BK537), GW537.out, GE537.out, NB520_537.out, NB537_520.out, (zb HB)⟩)
                 skip
                 rintro ⟨v526, v532⟩ w40 ⟨hS_, h0_, h1_, h2_, h3_, h4_⟩
                 have HO527 : Aside0 (Kd.R (Kd.int .i64) 3 w40 w.heap.size (fun k_ => some k_ ≠ (v532 : Value).ownBlock ∧ some k_ ≠ (.slice Ao12 t516.length co12 : Value).ownBlock) v526 y525) := ⟨h0_⟩
                 have HO533 : Aside0 (Kd.R (Kd.int .i64) 3 w40 w.heap.size (fun k_ => some k_ ≠ (v526 : Value).ownBlock ∧ some k_ ≠ (.slice Ao12 t516.length co12 : Value).ownBlock) v532 y531) := ⟨h1_⟩
                 replace HO_521001 : Aside0 (Kd.Q (Kd.int .i64) 3 w40 w.heap.size (fun k_ => some k_ ≠ (v526 : Value).ownBlock ∧ some k_ ≠ (v532 : Value).ownBlock) (.slice Ao12 t516.length co12) t516) := ⟨h2_⟩
                 replace BK520 : Aside0 (w40.heap[gb520]? = some (.cells #[.string t515, .slice Ao12 t516.length co12] 38 (0, 0))) := ⟨h3_⟩
                 replace HB : Aside0 (Below w.heap.size w w40) := ⟨h4_⟩
                 clear h0_ h1_ h2_ h3_ h4_
                 have hHeld : w40.cell? ⟨gb520, 0, none⟩ = some (.string t515) ∧ w40.cell? ⟨gb520, 1, none⟩ = some (.slice Ao12 t516.length co12) := hS_
                 refine norm_ (a' := ?_) ?_ ?_
                 rotate_left
                 · simp only [putAll, Act.put, List.setIfInBounds_toArray, List.set_cons_zero, List.set_cons_succ]
                   rfl
                 refine two_ (i := 5) (j := 10) (Ni := some 58) (Nj := some 9) (bs 12 255) (bs 12 1247) rfl rfl rfl rfl (two_of HT_.out (by kernel_rfl)) (by decide) (by decide) (fun K hK => ?_) (fun K hK => ?_)
                 · skip
                   refine Kd.R_append_rows_step (Kd.int .i64) (w0 := w) w.heap.size (by rfl) (.tmp 55) (.tmp 57) 36 3 (.int .i64 0) 8 rfl Try.underlying36 info3 rfl (by decide) (by omega) v526 y525 t516 _ _ _ (fun k_ => some k_ ≠ (.slice Ao12 t516.length co12 : Value).ownBlock ∧ some k_ ≠ (v532 : Value).ownBlock) (fun _ => False) rfl rfl ?aO ?aR (fun _ _ h => h) (fun _ h => h.elim) ?aF ?aB ?aS ?aL ?_
                   (case aR => repeat (first | exact (Kd.Q_reads' HO_521001.out).2.2 | (with_reducible refine Kd.C_alloc ?_ _) | (with_reducible refine Kd.C_drewN ?_ _) | (with_reducible refine Kd.C_drew ?_)))
                   (case aB => exact (zb HB))
                   (case aF => exact (fun k_ hk => ⟨Kd.fresh' (Kd.Q_lt (by (with_reducible repeat (first | apply Kd.Q_alloc | apply Kd.Q_drewN | apply Kd.Q_drew)); exact HO_521001.out)) k_ hk, Kd.fresh' (Kd.R_lt (zr HO533)) k_ hk⟩))
                   (case aO => exact (by (with_reducible repeat (first | apply Kd.R_alloc | apply Kd.R_drewN | apply Kd.R_drew)); exact Kd.R_mono HO527.out (fun _ hk => ⟨hk.2, hk.1⟩)))
                   (case aS => exact (below_size (zb HB)))
                   (case aL => have := LMc33.out; omega)
                   intro v529 w41 ho hb hg hat
                   rw [← Ny528.out] at ho
                   replace HO_521001 := am (Kd.Q_after (ok := (fun k_ => some k_ ≠ (v532 : Value).ownBlock)) (by (with_reducible repeat (first | apply Kd.Q_alloc | apply Kd.Q_drewN | apply Kd.Q_drew)); exact Kd.Q_mono HO_521001.out (fun _ hk => ⟨hk.2, hk.1⟩)) hg hat)
                   replace BK520 := am (blk_grown (zk BK520) hg (Kd.R_ne HO527.out BK520.out (by decide)))
                   replace HO533 := am (Kd.R_after (ok := (fun k_ => some k_ ≠ (.slice Ao12 t516.length co12 : Value).ownBlock)) (by (with_reducible repeat (first | apply Kd.R_alloc | apply Kd.R_drewN | apply Kd.R_drew)); exact Kd.R_mono HO533.out (fun _ hk => ⟨hk.2, hk.1⟩)) hg hat)
                   replace HB := am (hb)
                   have HO530 := am (ho)
                   clear HO527 ho hb hg hat
                   refine hK.out _ _ ⟨ce0 BK520, ce1 BK520⟩ (fun hHeld => ?_)
                   clear hK K
                   refine norm_ (a' := ?_) ?_ ?_
                   rotate_left
                   · show Act.put _ (some 58) _ = _
                     simp only [Act.put, List.setIfInBounds_toArray, List.set_cons_zero, List.set_cons_succ, i64_w, i32_w]
                     rfl
                   exact norm_ (by first | (simp only [putAll, Act.put, List.setIfInBounds_toArray, List.set_cons_zero, List.set_cons_succ]; done) | (simp only [putAll, Act.put, List.setIfInBounds_toArray, List.set_cons_zero, List.set_cons_succ]; rfl)) (hJ2_5_7 (v526, v529, v532) _ ⟨hHeld, (by (with_reducible repeat (first | apply Kd.R_alloc | apply Kd.R_drewN | apply Kd.R_drew)); exact Kd.R_mono HO530.out (fun _ hk => ⟨hk.2, hk.1⟩)), (by (with_reducible repeat (first | apply Kd.R_alloc | apply Kd.R_drewN | apply Kd.R_drew)); exact Kd.R_mono HO533.out (fun _ hk => ⟨hk.2, hk.1⟩)), (by (with_reducible repeat (first | apply Kd.Q_alloc | apply Kd.Q_drewN | apply Kd.Q_drew)); exact Kd.Q_mono HO_521001.out (fun _ hk => ⟨hk.2, hk.1⟩)), (zk BK520), (zb HB)⟩)
                 skip
                 refine box_step ?hg (N := 9) ?hd (cs := #[.string (⟨#[]⟩ : ByteArray), .slice none 0 0]) (t := 38) ?hr ?_; (case hd => rfl); (case hg => rfl); (case hr => first | (go_simp; done) | (go_simp; rfl))
                 intro gb537 hg w41 hbox hb
                 replace HO_521001 := am (Kd.Q_below (by (with_reducible repeat (first | apply Kd.Q_alloc | apply Kd.Q_drewN | apply Kd.Q_drew)); exact HO_521001.out) hb)
                 replace HO527 := am (Kd.R_below (zr HO527) hb)
                 replace HO533 := am (Kd.R_below (zr HO533) hb)
                 have BK537 := am (hbox)
                 have GW537 := am (zn hg (zb HB))
                 have GE537 := am (zn hg (zb HB))
                 replace HB := am (below_step (zb HB) hb)
                 have NB520_537 := am (zx hg (zk BK520))
                 have NB537_520 := am (zy hg (zk BK520))
                 replace BK520 := am (blk_below (zk BK520) hb)
                 clear hb hbox hg
                 refine hK.out _ _ ⟨ce0 BK520, ce1 BK520⟩ (fun hHeld => ?_)
                 clear hK K
                 refine norm_ (a' := ?_) ?_ ?_
                 rotate_left
                 · show Act.put _ (some 9) _ = _
                   simp only [Act.put, List.setIfInBounds_toArray, List.set_cons_zero, List.set_cons_succ, i64_w, i32_w]
                   rfl
                 exact norm_ (by first | (simp only [putAll, Act.put, List.setIfInBounds_toArray, List.set_cons_zero, List.set_cons_succ]; done) | (simp only [putAll, Act.put, List.setIfInBounds_toArray, List.set_cons_zero, List.set_cons_succ]; rfl)) (hJ2_7_10 (v526, v532, gb537) _ ⟨hHeld, (zr HO527), (zr HO533), (by (with_reducible repeat (first | apply Kd.Q_alloc | apply Kd.Q_drewN | apply Kd.Q_drew)); exact HO_521001.out), (zk BK520), (zk BK537), GW537.out, GE537.out, NB520_537.out, NB537_520.out, (zb HB)⟩)
               skip
               rintro ⟨v526, v529⟩ w39 ⟨hS_, h0_, h1_, h2_, h3_⟩
               have HO530 : Aside0 (Kd.R (Kd.int .i64) 3 w39 w.heap.size (fun k_ => some k_ ≠ (.slice Ao12 t516.length co12 : Value).ownBlock) v529 y528) := ⟨h0_⟩
               replace HO_521001 : Aside0 (Kd.Q (Kd.int .i64) 3 w39 w.heap.size (fun k_ => some k_ ≠ (v529 : Value).ownBlock) (.slice Ao12 t516.length co12) t516) := ⟨h1_⟩
               replace BK520 : Aside0 (w39.heap[gb520]? = some (.cells #[.string t515, .slice Ao12 t516.length co12] 38 (0, 0))) := ⟨h2_⟩
               replace HB : Aside0 (Below w.heap.size w w39) := ⟨h3_⟩
               clear h0_ h1_ h2_ h3_
               have hHeld : w39.cell? ⟨gb520, 0, none⟩ = some (.string t515) ∧ w39.cell? ⟨gb520, 1, none⟩ = some (.slice Ao12 t516.length co12) := hS_
               refine norm_ (a' := ?_) ?_ ?_
               rotate_left
               · simp only [putAll, Act.put, List.setIfInBounds_toArray, List.set_cons_zero, List.set_cons_succ]
                 rfl
               refine two_ (i := 7) (j := 10) (Ni := some 60) (Nj := some 9) (bs 12 255) (bs 12 1151) rfl rfl rfl rfl (two_of HT_.out (by kernel_rfl)) (by decide) (by decide) (fun K hK => ?_) (fun K hK => ?_)
               · skip
                 refine Kd.R_lit_step (Kd.int .i64) _ 3 ?hg (N := 60) ?hd (xs := ([1 + ((l1.length : Int) % 8)] : List Int)) (inner := [.int .i64 (1 + ((l1.length : Int) % 8))]) (ok := fun _ => True) (okp := fun _ => True) ?hr ?hp (fun _ hk => hk) trivial (Below.refl _ _) (Nat.le_refl _) (by simp) ?_; (case hd => rfl); (case hg => rfl); (case hr => first | (go_simp; done) | (go_simp; rfl)); (case hp => exact (Reps.one (show Kd.M (Kd.int .i64) _ _ _ (1 + ((l1.length : Int) % 8)) [.int .i64 (1 + ((l1.length : Int) % 8))] from rfl) (Reps.none _ _)))
                 intro v532 w40 ho41 hb hg_ hnew_
                 clear hg_ hnew_
                 (first | rw [← Ny531.out] at ho41 | (simp only [Int.reduceToNat] at ho41; rw [← Ny531.out] at ho41))
                 have HO533 := am (Kd.R_lower (Kd.R_new' (Kd.R_new' ho41 (Kd.Q_lt (by (with_reducible repeat (first | apply Kd.Q_alloc | apply Kd.Q_drewN | apply Kd.Q_drew)); exact HO_521001.out))) (Kd.R_lt (zr HO530))) (below_size (zb HB)))
                 replace HO_521001 := am (Kd.Q_elder' (by (with_reducible repeat (first | apply Kd.Q_alloc | apply Kd.Q_drewN | apply Kd.Q_drew)); exact HO_521001.out) (Kd.R_base ho41) hb)
                 replace HO530 := am (Kd.R_elder' (zr HO530) (Kd.R_base ho41) hb)
                 replace BK520 := am (blk_below (zk BK520) hb)
                 replace HB := am (below_step (zb HB) hb)
                 clear hb ho41
                 refine hK.out _ _ ⟨ce0 BK520, ce1 BK520⟩ (fun hHeld => ?_)
                 clear hK K
                 refine norm_ (a' := ?_) ?_ ?_
                 rotate_left
                 · show Act.put _ (some 60) _ = _
                   simp only [Act.put, List.setIfInBounds_toArray, List.set_cons_zero, List.set_cons_succ, i64_w, i32_w]
                   rfl
                 exact norm_ (by first | (simp only [putAll, Act.put, List.setIfInBounds_toArray, List.set_cons_zero, List.set_cons_succ]; done) | (simp only [putAll, Act.put, List.setIfInBounds_toArray, List.set_cons_zero, List.set_cons_succ]; rfl)) (hJ2_5_7 (v526, v529, v532) _ ⟨hHeld, (by (with_reducible repeat (first | apply Kd.R_alloc | apply Kd.R_drewN | apply Kd.R_drew)); exact Kd.R_mono HO530.out (fun _ hk => ⟨hk.2, hk.1⟩)), (by (with_reducible repeat (first | apply Kd.R_alloc | apply Kd.R_drewN | apply Kd.R_drew)); exact Kd.R_mono HO533.out (fun _ hk => ⟨hk.2, hk.1.2⟩)), (by (with_reducible repeat (first | apply Kd.Q_alloc | apply Kd.Q_drewN | apply Kd.Q_drew)); exact HO_521001.out), (zk BK520), (zb HB)⟩)
               skip
               refine box_step ?hg (N := 9) ?hd (cs := #[.string (⟨#[]⟩ : ByteArray), .slice none 0 0]) (t := 38) ?hr ?_; (case hd => rfl); (case hg => rfl); (case hr => first | (go_simp; done) | (go_simp; rfl))
               intro gb537 hg w40 hbox hb
               replace HO_521001 := am (Kd.Q_below (by (with_reducible repeat (first | apply Kd.Q_alloc | apply Kd.Q_drewN | apply Kd.Q_drew)); exact HO_521001.out) hb)
               replace HO530 := am (Kd.R_below (zr HO530) hb)
               have BK537 := am (hbox)
               have GW537 := am (zn hg (zb HB))
               have GE537 := am (zn hg (zb HB))
               replace HB := am (below_step (zb HB) hb)
               have NB520_537 := am (zx hg (zk BK520))
               have NB537_520 := am (zy hg (zk BK520))
               replace BK520 := am (blk_below (zk BK520) hb)
               clear hb hbox hg
               refine hK.out _ _ ⟨ce0 BK520, ce1 BK520⟩ (fun hHeld => ?_)
               clear hK K
               refine norm_ (a' := ?_) ?_ ?_
               rotate_left
               · show Act.put _ (some 9) _ = _
                 simp only [Act.put, List.setIfInBounds_toArray, List.set_cons_zero, List.set_cons_succ, i64_w, i32_w]
                 rfl
               exact norm_ (by first | (simp only [putAll, Act.put, List.setIfInBounds_toArray, List.set_cons_zero, List.set_cons_succ]; done) | (simp only [putAll, Act.put, List.setIfInBounds_toArray, List.set_cons_zero, List.set_cons_succ]; rfl)) (hJ2_5_10 (v526, v529, gb537) _ ⟨hHeld, (zr HO530), (by (with_reducible repeat (first | apply Kd.Q_alloc | apply Kd.Q_drewN | apply Kd.Q_drew)); exact HO_521001.out), (zk BK520), (zk BK537), GW537.out, GE537.out, NB520_537.out, NB537_520.out, (zb HB)⟩)
             skip
             rintro ⟨v526, v532, gb537⟩ w41 ⟨hS_, h0_, h1_, h2_, h3_, h4_, h5_, h6_, h7_, h8_, h9_⟩
             have HO527 : Aside0 (Kd.R (Kd.int .i64) 3 w41 w.heap.size (fun k_ => some k_ ≠ (v532 : Value).ownBlock ∧ some k_ ≠ (.slice Ao12 t516.length co12 : Value).ownBlock) v526 y525) := ⟨h0_⟩
             have HO533 : Aside0 (Kd.R (Kd.int .i64) 3 w41 w.heap.size (fun k_ => some k_ ≠ (v526 : Value).ownBlock ∧ some k_ ≠ (.slice Ao12 t516.length co12 : Value).ownBlock) v532 y531) := ⟨h1_⟩
             replace HO_521001 : Aside0 (Kd.Q (Kd.int .i64) 3 w41 w.heap.size (fun k_ => some k_ ≠ (v526 : Value).ownBlock ∧ some k_ ≠ (v532 : Value).ownBlock) (.slice Ao12 t516.length co12) t516) := ⟨h2_⟩
             replace BK520 : Aside0 (w41.heap[gb520]? = some (.cells #[.string t515, .slice Ao12 t516.length co12] 38 (0, 0))) := ⟨h3_⟩
             have BK537 : Aside0 (w41.heap[gb537]? = some (.cells #[.string (⟨#[]⟩ : ByteArray), .slice none 0 0] 38 (0, 0))) := ⟨h4_⟩
             have GW537 : Aside0 (w.heap.size ≤ gb537) := ⟨h5_⟩
             have GE537 : Aside0 (w.heap.size ≤ gb537) := ⟨h6_⟩
             have NB520_537 : Aside0 (gb520 ≠ gb537) := ⟨h7_⟩
             have NB537_520 : Aside0 (gb537 ≠ gb520) := ⟨h8_⟩
             replace HB : Aside0 (Below w.heap.size w w41) := ⟨h9_⟩
             clear h0_ h1_ h2_ h3_ h4_ h5_ h6_ h7_ h8_ h9_
             have hHeld : w41.cell? ⟨gb520, 0, none⟩ = some (.string t515) ∧ w41.cell? ⟨gb520, 1, none⟩ = some (.slice Ao12 t516.length co12) := hS_
             refine norm_ (a' := ?_) ?_ ?_
             rotate_left
             · simp only [putAll, Act.put, List.setIfInBounds_toArray, List.set_cons_zero, List.set_cons_succ]
               rfl
             refine oz 5 12 1279 rfl rfl (fun K hK => ?_)
             refine Kd.R_append_rows_step (Kd.int .i64) (w0 := w) w.heap.size (by rfl) (.tmp 55) (.tmp 57) 36 3 (.int .i64 0) 8 rfl Try.underlying36 info3 rfl (by decide) (by omega) v526 y525 t516 _ _ _ (fun k_ => some k_ ≠ (.slice Ao12 t516.length co12 : Value).ownBlock ∧ some k_ ≠ (v532 : Value).ownBlock) (fun _ => False) rfl rfl ?aO ?aR (fun _ _ h => h) (fun _ h => h.elim) ?aF ?aB ?aS ?aL ?_
             (case aR => repeat (first | exact (Kd.Q_reads' HO_521001.out).2.2 | (with_reducible refine Kd.C_alloc ?_ _) | (with_reducible refine Kd.C_drewN ?_ _) | (with_reducible refine Kd.C_drew ?_)))
             (case aB => exact (zb HB))
             (case aF => exact (fun k_ hk => ⟨Kd.fresh' (Kd.Q_lt (by (with_reducible repeat (first | apply Kd.Q_alloc | apply Kd.Q_drewN | apply Kd.Q_drew)); exact HO_521001.out)) k_ hk, Kd.fresh' (Kd.R_lt (zr HO533)) k_ hk⟩))
             (case aO => exact (by (with_reducible repeat (first | apply Kd.R_alloc | apply Kd.R_drewN | apply Kd.R_drew)); exact Kd.R_mono HO527.out (fun _ hk => ⟨hk.2, hk.1⟩)))
             (case aS => exact (below_size (zb HB)))
             (case aL => have := LMc33.out; omega)
             intro v529 w42 ho hb hg hat
             rw [← Ny528.out] at ho
             replace HO_521001 := am (Kd.Q_after (ok := (fun k_ => some k_ ≠ (v532 : Value).ownBlock)) (by (with_reducible repeat (first | apply Kd.Q_alloc | apply Kd.Q_drewN | apply Kd.Q_drew)); exact Kd.Q_mono HO_521001.out (fun _ hk => ⟨hk.2, hk.1⟩)) hg hat)
             replace BK520 := am (blk_grown (zk BK520) hg (Kd.R_ne HO527.out BK520.out (by decide)))
             replace HO533 := am (Kd.R_after (ok := (fun k_ => some k_ ≠ (.slice Ao12 t516.length co12 : Value).ownBlock)) (by (with_reducible repeat (first | apply Kd.R_alloc | apply Kd.R_drewN | apply Kd.R_drew)); exact Kd.R_mono HO533.out (fun _ hk => ⟨hk.2, hk.1⟩)) hg hat)
             replace BK537 := am (blk_grown (zk BK537) hg (Kd.R_ne HO527.out BK537.out (by decide)))
             replace HB := am (hb)
             have HO530 := am (ho)
             clear HO527 ho hb hg hat
             refine hK.out _ _ ⟨ce0 BK520, ce1 BK520⟩ (fun hHeld => ?_)
             clear hK K
             refine norm_ (a' := ?_) ?_ ?_
             rotate_left
             · show Act.put _ (some 58) _ = _
               simp only [Act.put, List.setIfInBounds_toArray, List.set_cons_zero, List.set_cons_succ, i64_w, i32_w]
               rfl
             exact norm_ (by first | (simp only [putAll, Act.put, List.setIfInBounds_toArray, List.set_cons_zero, List.set_cons_succ]; done) | (simp only [putAll, Act.put, List.setIfInBounds_toArray, List.set_cons_zero, List.set_cons_succ]; rfl)) (hJ2_5_7_10 (v526, v529, v532, gb537) _ ⟨hHeld, (by (with_reducible repeat (first | apply Kd.R_alloc | apply Kd.R_drewN | apply Kd.R_drew)); exact Kd.R_mono HO530.out (fun _ hk => ⟨hk.2, hk.1⟩)), (by (with_reducible repeat (first | apply Kd.R_alloc | apply Kd.R_drewN | apply Kd.R_drew)); exact Kd.R_mono HO533.out (fun _ hk => ⟨hk.2, hk.1⟩)), (by (with_reducible repeat (first | apply Kd.Q_alloc | apply Kd.Q_drewN | apply Kd.Q_drew)); exact Kd.Q_mono HO_521001.out (fun _ hk => ⟨hk.2, hk.1⟩)), (zk BK520), (zk BK537), GW537.out, GE537.out, NB520_537.out, NB537_520.out, (zb HB)⟩)
           skip
           rintro ⟨v526, v529, gb537⟩ w40 ⟨hS_, h0_, h1_, h2_, h3_, h4_, h5_, h6_, h7_, h8_⟩
           have HO530 : Aside0 (Kd.R (Kd.int .i64) 3 w40 w.heap.size (fun k_ => some k_ ≠ (.slice Ao12 t516.length co12 : Value).ownBlock) v529 y528) := ⟨h0_⟩
           replace HO_521001 : Aside0 (Kd.Q (Kd.int .i64) 3 w40 w.heap.size (fun k_ => some k_ ≠ (v529 : Value).ownBlock) (.slice Ao12 t516.length co12) t516) := ⟨h1_⟩
           replace BK520 : Aside0 (w40.heap[gb520]? = some (.cells #[.string t515, .slice Ao12 t516.length co12] 38 (0, 0))) := ⟨h2_⟩
           have BK537 : Aside0 (w40.heap[gb537]? = some (.cells #[.string (⟨#[]⟩ : ByteArray), .slice none 0 0] 38 (0, 0))) := ⟨h3_⟩
           have GW537 : Aside0 (w.heap.size ≤ gb537) := ⟨h4_⟩
           have GE537 : Aside0 (w.heap.size ≤ gb537) := ⟨h5_⟩
           have NB520_537 : Aside0 (gb520 ≠ gb537) := ⟨h6_⟩
           have NB537_520 : Aside0 (gb537 ≠ gb520) := ⟨h7_⟩
           replace HB : Aside0 (Below w.heap.size w w40) := ⟨h8_⟩
           clear h0_ h1_ h2_ h3_ h4_ h5_ h6_ h7_ h8_
           have hHeld : w40.cell? ⟨gb520, 0, none⟩ = some (.string t515) ∧ w40.cell? ⟨gb520, 1, none⟩ = some (.slice Ao12 t516.length co12) := hS_
           refine norm_ (a' := ?_) ?_ ?_
           rotate_left
           · simp only [putAll, Act.put, List.setIfInBounds_toArray, List.set_cons_zero, List.set_cons_succ]
             rfl
           refine oz 7 12 1279 rfl rfl (fun K hK => ?_)
           refine Kd.R_lit_step (Kd.int .i64) _ 3 ?hg (N := 60) ?hd (xs := ([1 + ((l1.length : Int) % 8)] : List Int)) (inner := [.int .i64 (1 + ((l1.length : Int) % 8))]) (ok := fun _ => True) (okp := fun _ => True) ?hr ?hp (fun _ hk => hk) trivial (Below.refl _ _) (Nat.le_refl _) (by simp) ?_; (case hd => rfl); (case hg => rfl); (case hr => first | (go_simp; done) | (go_simp; rfl)); (case hp => exact (Reps.one (show Kd.M (Kd.int .i64) _ _ _ (1 + ((l1.length : Int) % 8)) [.int .i64 (1 + ((l1.length : Int) % 8))] from rfl) (Reps.none _ _)))
           intro v532 w41 ho42 hb hg_ hnew_
           clear hg_ hnew_
           (first | rw [← Ny531.out] at ho42 | (simp only [Int.reduceToNat] at ho42; rw [← Ny531.out] at ho42))
           have HO533 := am (Kd.R_lower (Kd.R_new' (Kd.R_new' ho42 (Kd.Q_lt (by (with_reducible repeat (first | apply Kd.Q_alloc | apply Kd.Q_drewN | apply Kd.Q_drew)); exact HO_521001.out))) (Kd.R_lt (zr HO530))) (below_size (zb HB)))
           replace HO_521001 := am (Kd.Q_elder' (by (with_reducible repeat (first | apply Kd.Q_alloc | apply Kd.Q_drewN | apply Kd.Q_drew)); exact HO_521001.out) (Kd.R_base ho42) hb)
           replace HO530 := am (Kd.R_elder' (zr HO530) (Kd.R_base ho42) hb)
           replace BK520 := am (blk_below (zk BK520) hb)
           replace BK537 := am (blk_below (zk BK537) hb)
           replace HB := am (below_step (zb HB) hb)
           clear hb ho42
           refine hK.out _ _ ⟨ce0 BK520, ce1 BK520⟩ (fun hHeld => ?_)
           clear hK K
           refine norm_ (a' := ?_) ?_ ?_
           rotate_left
           · show Act.put _ (some 60) _ = _
             simp only [Act.put, List.setIfInBounds_toArray, List.set_cons_zero, List.set_cons_succ, i64_w, i32_w]
             rfl
           exact norm_ (by first | (simp only [putAll, Act.put, List.setIfInBounds_toArray, List.set_cons_zero, List.set_cons_succ]; done) | (simp only [putAll, Act.put, List.setIfInBounds_toArray, List.set_cons_zero, List.set_cons_succ]; rfl)) (hJ2_5_7_10 (v526, v529, v532, gb537) _ ⟨hHeld, (by (with_reducible repeat (first | apply Kd.R_alloc | apply Kd.R_drewN | apply Kd.R_drew)); exact Kd.R_mono HO530.out (fun _ hk => ⟨hk.2, hk.1⟩)), (by (with_reducible repeat (first | apply Kd.R_alloc | apply Kd.R_drewN | apply Kd.R_drew)); exact Kd.R_mono HO533.out (fun _ hk => ⟨hk.2, hk.1.2⟩)), (by (with_reducible repeat (first | apply Kd.Q_alloc | apply Kd.Q_drewN | apply Kd.Q_drew)); exact HO_521001.out), (zk BK520), (zk BK537), GW537.out, GE537.out, NB520_537.out, NB537_520.out, (zb HB)⟩)
         skip
         rintro ⟨v526, v529, v532⟩ w41 ⟨hS_, h0_, h1_, h2_, h3_, h4_⟩
         have HO530 : Aside0 (Kd.R (Kd.int .i64) 3 w41 w.heap.size (fun k_ => some k_ ≠ (v532 : Value).ownBlock ∧ some k_ ≠ (.slice Ao12 t516.length co12 : Value).ownBlock) v529 y528) := ⟨h0_⟩
         have HO533 : Aside0 (Kd.R (Kd.int .i64) 3 w41 w.heap.size (fun k_ => some k_ ≠ (v529 : Value).ownBlock ∧ some k_ ≠ (.slice Ao12 t516.length co12 : Value).ownBlock) v532 y531) := ⟨h1_⟩
         replace HO_521001 : Aside0 (Kd.Q (Kd.int .i64) 3 w41 w.heap.size (fun k_ => some k_ ≠ (v529 : Value).ownBlock ∧ some k_ ≠ (v532 : Value).ownBlock) (.slice Ao12 t516.length co12) t516) := ⟨h2_⟩
         replace BK520 : Aside0 (w41.heap[gb520]? = some (.cells #[.string t515, .slice Ao12 t516.length co12] 38 (0, 0))) := ⟨h3_⟩
         replace HB : Aside0 (Below w.heap.size w w41) := ⟨h4_⟩
         clear h0_ h1_ h2_ h3_ h4_
         have hHeld : w41.cell? ⟨gb520, 0, none⟩ = some (.string t515) ∧ w41.cell? ⟨gb520, 1, none⟩ = some (.slice Ao12 t516.length co12) := hS_
         obtain ⟨Ao43, co43, eo43⟩ := Kd.R_slice HO533.out
         (first | subst eo43 | (injection eo43 with f1_ f2_ f3_; have f4_ := f1_.symm; have f5_ := f3_.symm; clear f1_ f2_ f3_; subst f4_; subst f5_))
         refine norm_ (a' := ?_) ?_ ?_
         rotate_left
         · simp only [putAll, Act.put, List.setIfInBounds_toArray, List.set_cons_zero, List.set_cons_succ]
           rfl
         refine two_ (i := 8) (j := 10) (Ni := some 61) (Nj := some 9) (bs 12 511) (bs 12 1279) rfl rfl rfl rfl (two_of HT_.out (by kernel_rfl)) (by decide) (by decide) (fun K hK => ?_) (fun K hK => ?_)
         · skip
           refine Kd.R_append_rows_step (Kd.int .i64) (w0 := w) w.heap.size (by rfl) (.tmp 58) (.tmp 60) 36 3 (.int .i64 0) 8 rfl Try.underlying36 info3 rfl (by decide) (by omega) v529 y528 y531 _ _ _ (fun k_ => some k_ ≠ (.slice Ao12 t516.length co12 : Value).ownBlock ∧ some k_ ≠ (.slice Ao43 y531.length co43 : Value).ownBlock) (fun _ => False) rfl rfl ?aO ?aR (fun _ _ h => h) (fun _ h => h.elim) ?aF ?aB ?aS ?aL ?_
           (case aR => repeat (first | exact (Kd.R_reads' HO533.out).2.2 | (with_reducible refine Kd.C_alloc ?_ _) | (with_reducible refine Kd.C_drewN ?_ _) | (with_reducible refine Kd.C_drew ?_)))
           (case aB => exact (zb HB))
           (case aF => exact (fun k_ hk => ⟨Kd.fresh' (Kd.Q_lt (by (with_reducible repeat (first | apply Kd.Q_alloc | apply Kd.Q_drewN | apply Kd.Q_drew)); exact HO_521001.out)) k_ hk, Kd.fresh' (Kd.R_lt (zr HO533)) k_ hk⟩))
           (case aO => exact (by (with_reducible repeat (first | apply Kd.R_alloc | apply Kd.R_drewN | apply Kd.R_drew)); exact Kd.R_mono HO530.out (fun _ hk => ⟨hk.2, hk.1⟩)))
           (case aS => exact (below_size (zb HB)))
           (case aL => have := LMc34.out; omega)
           intro v535 w42 ho hb hg hat
           rw [← Ny534.out] at ho
           replace HO_521001 := am (Kd.Q_after (ok := (fun k_ => some k_ ≠ (.slice Ao43 y531.length co43 : Value).ownBlock)) (by (with_reducible repeat (first | apply Kd.Q_alloc | apply Kd.Q_drewN | apply Kd.Q_drew)); exact Kd.Q_mono HO_521001.out (fun _ hk => ⟨hk.2, hk.1⟩)) hg hat)
           replace BK520 := am (blk_grown (zk BK520) hg (Kd.R_ne HO530.out BK520.out (by decide)))
           replace HO533 := am (Kd.R_after (ok := (fun k_ => some k_ ≠ (.slice Ao12 t516.length co12 : Value).ownBlock)) (by (with_reducible repeat (first | apply Kd.R_alloc | apply Kd.R_drewN | apply Kd.R_drew)); exact Kd.R_mono HO533.out (fun _ hk => ⟨hk.2, hk.1⟩)) hg hat)
           replace HB := am (hb)
           have HO536 := am (ho)
           clear HO530 ho hb hg hat
           obtain ⟨Ao44, co44, eo44⟩ := Kd.R_slice HO536.out
           (first | subst eo44 | (injection eo44 with f1_ f2_ f3_; have f4_ := f1_.symm; have f5_ := f3_.symm; clear f1_ f2_ f3_; subst f4_; subst f5_))
           refine hK.out _ _ ⟨ce0 BK520, ce1 BK520⟩ (fun hHeld => ?_)
           clear hK K
           refine norm_ (a' := ?_) ?_ ?_
           rotate_left
           · show Act.put _ (some 61) _ = _
             simp only [Act.put, List.setIfInBounds_toArray, List.set_cons_zero, List.set_cons_succ, i64_w, i32_w]
             rfl
           refine pu 9 62 12 1023 rfl rfl ?_
           exact norm_ (by first | (simp only [putAll, Act.put, List.setIfInBounds_toArray, List.set_cons_zero, List.set_cons_succ]; done) | (simp only [putAll, Act.put, List.setIfInBounds_toArray, List.set_cons_zero, List.set_cons_succ]; rfl)) (hJ2_5_7_8 (v526, v529, .slice Ao43 y531.length co43, .slice Ao44 y534.length co44) _ ⟨hHeld, (by (with_reducible repeat (first | apply Kd.R_alloc | apply Kd.R_drewN | apply Kd.R_drew)); exact Kd.R_mono HO533.out (fun _ hk => ⟨hk.2, hk.1⟩)), (by (with_reducible repeat (first | apply Kd.R_alloc | apply Kd.R_drewN | apply Kd.R_drew)); exact Kd.R_mono HO536.out (fun _ hk => ⟨hk.2, hk.1⟩)), (by (with_reducible repeat (first | apply Kd.Q_alloc | apply Kd.Q_drewN | apply Kd.Q_drew)); exact HO_521001.out), (zk BK520), (zb HB)⟩)
         skip
         refine box_step ?hg (N := 9) ?hd (cs := #[.string (⟨#[]⟩ : ByteArray), .slice none 0 0]) (t := 38) ?hr ?_; (case hd => rfl); (case hg => rfl); (case hr => first | (go_simp; done) | (go_simp; rfl))
         intro gb537 hg w42 hbox hb
         replace HO_521001 := am (Kd.Q_below (by (with_reducible repeat (first | apply Kd.Q_alloc | apply Kd.Q_drewN | apply Kd.Q_drew)); exact HO_521001.out) hb)
         replace HO530 := am (Kd.R_below (zr HO530) hb)
         replace HO533 := am (Kd.R_below (zr HO533) hb)
         have BK537 := am (hbox)
         have GW537 := am (zn hg (zb HB))
         have GE537 := am (zn hg (zb HB))
         replace HB := am (below_step (zb HB) hb)
         have NB520_537 := am (zx hg (zk BK520))
         have NB537_520 := am (zy hg (zk BK520))
         replace BK520 := am (blk_below (zk BK520) hb)
         clear hb hbox hg
         refine hK.out _ _ ⟨ce0 BK520, ce1 BK520⟩ (fun hHeld => ?_)
         clear hK K
         refine norm_ (a' := ?_) ?_ ?_
         rotate_left
         · show Act.put _ (some 9) _ = _
           simp only [Act.put, List.setIfInBounds_toArray, List.set_cons_zero, List.set_cons_succ, i64_w, i32_w]
           rfl
         exact norm_ (by first | (simp only [putAll, Act.put, List.setIfInBounds_toArray, List.set_cons_zero, List.set_cons_succ]; done) | (simp only [putAll, Act.put, List.setIfInBounds_toArray, List.set_cons_zero, List.set_cons_succ]; rfl)) (hJ2_5_7_10 (v526, v529, .slice Ao43 y531.length co43, gb537) _ ⟨hHeld, (zr HO530), (zr HO533), (by (with_reducible repeat (first | apply Kd.Q_alloc | apply Kd.Q_drewN | apply Kd.Q_drew)); exact HO_521001.out), (zk BK520), (zk BK537), GW537.out, GE537.out, NB520_537.out, NB537_520.out, (zb HB)⟩)
       skip
       rintro ⟨v526, v529, v532, gb537⟩ w42 ⟨hS_, h0_, h1_, h2_, h3_, h4_, h5_, h6_, h7_, h8_, h9_⟩
       have HO530 : Aside0 (Kd.R (Kd.int .i64) 3 w42 w.heap.size (fun k_ => some k_ ≠ (v532 : Value).ownBlock ∧ some k_ ≠ (.slice Ao12 t516.length co12 : Value).ownBlock) v529 y528) := ⟨h0_⟩
       have HO533 : Aside0 (Kd.R (Kd.int .i64) 3 w42 w.heap.size (fun k_ => some k_ ≠ (v529 : Value).ownBlock ∧ some k_ ≠ (.slice Ao12 t516.length co12 : Value).ownBlock) v532 y531) := ⟨h1_⟩
       replace HO_521001 : Aside0 (Kd.Q (Kd.int .i64) 3 w42 w.heap.size (fun k_ => some k_ ≠ (v529 : Value).ownBlock ∧ some k_ ≠ (v532 : Value).ownBlock) (.slice Ao12 t516.length co12) t516) := ⟨h2_⟩
       replace BK520 : Aside0 (w42.heap[gb520]? = some (.cells #[.string t515, .slice Ao12 t516.length co12] 38 (0, 0))) := ⟨h3_⟩
       have BK537 : Aside0 (w42.heap[gb537]? = some (.cells #[.string (⟨#[]⟩ : ByteArray), .slice none 0 0] 38 (0, 0))) := ⟨h4_⟩
       have GW537 : Aside0 (w.heap.size ≤ gb537) := ⟨h5_⟩
       have GE537 : Aside0 (w.heap.size ≤ gb537) := ⟨h6_⟩
       have NB520_537 : Aside0 (gb520 ≠ gb537) := ⟨h7_⟩
       have NB537_520 : Aside0 (gb537 ≠ gb520) := ⟨h8_⟩
       replace HB : Aside0 (Below w.heap.size w w42) := ⟨h9_⟩
       clear h0_ h1_ h2_ h3_ h4_ h5_ h6_ h7_ h8_ h9_
       have hHeld : w42.cell? ⟨gb520, 0, none⟩ = some (.string t515) ∧ w42.cell? ⟨gb520, 1, none⟩ = some (.slice Ao12 t516.length co12) := hS_
       obtain ⟨Ao44, co44, eo44⟩ := Kd.R_slice HO533.out
       (first | subst eo44 | (injection eo44 with f1_ f2_ f3_; have f4_ := f1_.symm; have f5_ := f3_.symm; clear f1_ f2_ f3_; subst f4_; subst f5_))
       refine norm_ (a' := ?_) ?_ ?_
       rotate_left
       · simp only [putAll, Act.put, List.setIfInBounds_toArray, List.set_cons_zero, List.set_cons_succ]
         rfl
       refine oz 8 12 1535 rfl rfl (fun K hK => ?_)
       refine Kd.R_append_rows_step (Kd.int .i64) (w0 := w) w.heap.size (by rfl) (.tmp 58) (.tmp 60) 36 3 (.int .i64 0) 8 rfl Try.underlying36 info3 rfl (by decide) (by omega) v529 y528 y531 _ _ _ (fun k_ => some k_ ≠ (.slice Ao12 t516.length co12 : Value).ownBlock ∧ some k_ ≠ (.slice Ao44 y531.length co44 : Value).ownBlock) (fun _ => False) rfl rfl ?aO ?aR (fun _ _ h => h) (fun _ h => h.elim) ?aF ?aB ?aS ?aL ?_
       (case aR => repeat (first | exact (Kd.R_reads' HO533.out).2.2 | (with_reducible refine Kd.C_alloc ?_ _) | (with_reducible refine Kd.C_drewN ?_ _) | (with_reducible refine Kd.C_drew ?_)))
       (case aB => exact (zb HB))
       (case aF => exact (fun k_ hk => ⟨Kd.fresh' (Kd.Q_lt (by (with_reducible repeat (first | apply Kd.Q_alloc | apply Kd.Q_drewN | apply Kd.Q_drew)); exact HO_521001.out)) k_ hk, Kd.fresh' (Kd.R_lt (zr HO533)) k_ hk⟩))
       (case aO => exact (by (with_reducible repeat (first | apply Kd.R_alloc | apply Kd.R_drewN | apply Kd.R_drew)); exact Kd.R_mono HO530.out (fun _ hk => ⟨hk.2, hk.1⟩)))
       (case aS => exact (below_size (zb HB)))
       (case aL => have := LMc34.out; omega)
       intro v535 w43 ho hb hg hat
       rw [← Ny534.out] at ho
       replace HO_521001 := am (Kd.Q_after (ok := (fun k_ => some k_ ≠ (.slice Ao44 y531.length co44 : Value).ownBlock)) (by (with_reducible repeat (first | apply Kd.Q_alloc | apply Kd.Q_drewN | apply Kd.Q_drew)); exact Kd.Q_mono HO_521001.out (fun _ hk => ⟨hk.2, hk.1⟩)) hg hat)
       replace BK520 := am (blk_grown (zk BK520) hg (Kd.R_ne HO530.out BK520.out (by decide)))
       replace HO533 := am (Kd.R_after (ok := (fun k_ => some k_ ≠ (.slice Ao12 t516.length co12 : Value).ownBlock)) (by (with_reducible repeat (first | apply Kd.R_alloc | apply Kd.R_drewN | apply Kd.R_drew)); exact Kd.R_mono HO533.out (fun _ hk => ⟨hk.2, hk.1⟩)) hg hat)
       replace BK537 := am (blk_grown (zk BK537) hg (Kd.R_ne HO530.out BK537.out (by decide)))
       replace HB := am (hb)
       have HO536 := am (ho)
       clear HO530 ho hb hg hat
       obtain ⟨Ao45, co45, eo45⟩ := Kd.R_slice HO536.out
       (first | subst eo45 | (injection eo45 with f1_ f2_ f3_; have f4_ := f1_.symm; have f5_ := f3_.symm; clear f1_ f2_ f3_; subst f4_; subst f5_))
       refine hK.out _ _ ⟨ce0 BK520, ce1 BK520⟩ (fun hHeld => ?_)
       clear hK K
       refine norm_ (a' := ?_) ?_ ?_
       rotate_left
       · show Act.put _ (some 61) _ = _
         simp only [Act.put, List.setIfInBounds_toArray, List.set_cons_zero, List.set_cons_succ, i64_w, i32_w]
         rfl
       refine pu 9 62 12 2047 rfl rfl ?_
       exact norm_ (by first | (simp only [putAll, Act.put, List.setIfInBounds_toArray, List.set_cons_zero, List.set_cons_succ]; done) | (simp only [putAll, Act.put, List.setIfInBounds_toArray, List.set_cons_zero, List.set_cons_succ]; rfl)) (hJ2_5_7_8_10 (v526, v529, .slice Ao44 y531.length co44, .slice Ao45 y534.length co45, gb537) _ ⟨hHeld, (by (with_reducible repeat (first | apply Kd.R_alloc | apply Kd.R_drewN | apply Kd.R_drew)); exact Kd.R_mono HO533.out (fun _ hk => ⟨hk.2, hk.1⟩)), (by (with_reducible repeat (first | apply Kd.R_alloc | apply Kd.R_drewN | apply Kd.R_drew)); exact Kd.R_mono HO536.out (fun _ hk => ⟨hk.2, hk.1⟩)), (by (with_reducible repeat (first | apply Kd.Q_alloc | apply Kd.Q_drewN | apply Kd.Q_drew)); exact HO_521001.out), (zk BK520), (zk BK537), GW537.out, GE537.out, NB520_537.out, NB537_520.out, (zb HB)⟩)
     skip
     rintro ⟨v526, v529, v532, v535⟩ w44 ⟨hS_, h0_, h1_, h2_, h3_, h4_⟩
     have HO533 : Aside0 (Kd.R (Kd.int .i64) 3 w44 w.heap.size (fun k_ => some k_ ≠ (v535 : Value).ownBlock ∧ some k_ ≠ (.slice Ao12 t516.length co12 : Value).ownBlock) v532 y531) := ⟨h0_⟩
     have HO536 : Aside0 (Kd.R (Kd.int .i64) 3 w44 w.heap.size (fun k_ => some k_ ≠ (v532 : Value).ownBlock ∧ some k_ ≠ (.slice Ao12 t516.length co12 : Value).ownBlock) v535 y534) := ⟨h1_⟩
     replace HO_521001 : Aside0 (Kd.Q (Kd.int .i64) 3 w44 w.heap.size (fun k_ => some k_ ≠ (v532 : Value).ownBlock ∧ some k_ ≠ (v535 : Value).ownBlock) (.slice Ao12 t516.length co12) t516) := ⟨h2_⟩
     replace BK520 : Aside0 (w44.heap[gb520]? = some (.cells #[.string t515, .slice Ao12 t516.length co12] 38 (0, 0))) := ⟨h3_⟩
     replace HB : Aside0 (Below w.heap.size w w44) := ⟨h4_⟩
     clear h0_ h1_ h2_ h3_ h4_
     have hHeld : w44.cell? ⟨gb520, 0, none⟩ = some (.string t515) ∧ w44.cell? ⟨gb520, 1, none⟩ = some (.slice Ao12 t516.length co12) := hS_
     obtain ⟨Ao45, co45, eo45⟩ := Kd.R_slice HO536.out
     (first | subst eo45 | (injection eo45 with f1_ f2_ f3_; have f4_ := f1_.symm; have f5_ := f3_.symm; clear f1_ f2_ f3_; subst f4_; subst f5_))
     refine norm_ (a' := ?_) ?_ ?_
     rotate_left
     · simp only [putAll, Act.put, List.setIfInBounds_toArray, List.set_cons_zero, List.set_cons_succ]
       rfl
     refine oz 10 12 2047 rfl rfl (fun K hK => ?_)
     refine box_step ?hg (N := 9) ?hd (cs := #[.string (⟨#[]⟩ : ByteArray), .slice none 0 0]) (t := 38) ?hr ?_; (case hd => rfl); (case hg => rfl); (case hr => first | (go_simp; done) | (go_simp; rfl))
     intro gb537 hg w46 hbox hb
     replace HO_521001 := am (Kd.Q_below (by (with_reducible repeat (first | apply Kd.Q_alloc | apply Kd.Q_drewN | apply Kd.Q_drew)); exact HO_521001.out) hb)
     replace HO533 := am (Kd.R_below (zr HO533) hb)
     replace HO536 := am (Kd.R_below (zr HO536) hb)
     have BK537 := am (hbox)
     have GW537 := am (zn hg (zb HB))
     have GE537 := am (zn hg (zb HB))
     replace HB := am (below_step (zb HB) hb)
     have NB520_537 := am (zx hg (zk BK520))
     have NB537_520 := am (zy hg (zk BK520))
     replace BK520 := am (blk_below (zk BK520) hb)
     clear hb hbox hg
     refine hK.out _ _ ⟨ce0 BK520, ce1 BK520⟩ (fun hHeld => ?_)
     clear hK K
     refine norm_ (a' := ?_) ?_ ?_
     rotate_left
     · show Act.put _ (some 9) _ = _
       simp only [Act.put, List.setIfInBounds_toArray, List.set_cons_zero, List.set_cons_succ, i64_w, i32_w]
       rfl
     exact norm_ (by first | (simp only [putAll, Act.put, List.setIfInBounds_toArray, List.set_cons_zero, List.set_cons_succ]; done) | (simp only [putAll, Act.put, List.setIfInBounds_toArray, List.set_cons_zero, List.set_cons_succ]; rfl)) (hJ2_5_7_8_10 (v526, v529, v532, .slice Ao45 y534.length co45, gb537) _ ⟨hHeld, (zr HO533), (zr HO536), (by (with_reducible repeat (first | apply Kd.Q_alloc | apply Kd.Q_drewN | apply Kd.Q_drew)); exact HO_521001.out), (zk BK520), (zk BK537), GW537.out, GE537.out, NB520_537.out, NB537_520.out, (zb HB)⟩)
   rintro ⟨v526, v529, v532, v535, gb537⟩ w45 ⟨hS_, h0_, h1_, h2_, h3_, h4_, h5_, h6_, h7_, h8_, h9_⟩
   have HO533 : Aside0 (Kd.R (Kd.int .i64) 3 w45 w.heap.size (fun k_ => some k_ ≠ (v535 : Value).ownBlock ∧ some k_ ≠ (.slice Ao12 t516.length co12 : Value).ownBlock) v532 y531) := ⟨h0_⟩
   have HO536 : Aside0 (Kd.R (Kd.int .i64) 3 w45 w.heap.size (fun k_ => some k_ ≠ (v532 : Value).ownBlock ∧ some k_ ≠ (.slice Ao12 t516.length co12 : Value).ownBlock) v535 y534) := ⟨h1_⟩
   replace HO_521001 : Aside0 (Kd.Q (Kd.int .i64) 3 w45 w.heap.size (fun k_ => some k_ ≠ (v532 : Value).ownBlock ∧ some k_ ≠ (v535 : Value).ownBlock) (.slice Ao12 t516.length co12) t516) := ⟨h2_⟩
   replace BK520 : Aside0 (w45.heap[gb520]? = some (.cells #[.string t515, .slice Ao12 t516.length co12] 38 (0, 0))) := ⟨h3_⟩
   have BK537 : Aside0 (w45.heap[gb537]? = some (.cells #[.string (⟨#[]⟩ : ByteArray), .slice none 0 0] 38 (0, 0))) := ⟨h4_⟩
   have GW537 : Aside0 (w.heap.size ≤ gb537) := ⟨h5_⟩
   have GE537 : Aside0 (w.heap.size ≤ gb537) := ⟨h6_⟩
   have NB520_537 : Aside0 (gb520 ≠ gb537) := ⟨h7_⟩
   have NB537_520 : Aside0 (gb537 ≠ gb520) := ⟨h8_⟩
   replace HB : Aside0 (Below w.heap.size w w45) := ⟨h9_⟩
   clear h0_ h1_ h2_ h3_ h4_ h5_ h6_ h7_ h8_ h9_
   have hHeld : w45.cell? ⟨gb520, 0, none⟩ = some (.string t515) ∧ w45.cell? ⟨gb520, 1, none⟩ = some (.slice Ao12 t516.length co12) := hS_
   obtain ⟨Ao46, co46, eo46⟩ := Kd.R_slice HO536.out
   (first | subst eo46 | (injection eo46 with f1_ f2_ f3_; have f4_ := f1_.symm; have f5_ := f3_.symm; clear f1_ f2_ f3_; subst f4_; subst f5_))
   refine norm_ (a' := ?_) ?_ ?_
   rotate_left
   · simp only [putAll, Act.put, List.setIfInBounds_toArray, List.set_cons_zero, List.set_cons_succ]
     rfl
   refine oz 11 12 4095 rfl rfl (fun K hK => ?_)
   have hs47 := ce0 BK537
   have hfs47 := bfz BK537 0
   have hns47_0 := NB520_537.out
   have hms47_0 := NB537_520.out
   have hs48 := ce1 BK537
   have hfs48 := bfz BK537 1
   have hns48_0 := NB520_537.out
   have hms48_0 := NB537_520.out
   refine skip_ (w1 := ?_) (by rfl) rfl ?_ ?_
   rotate_left
   · go_simp
     rfl
   refine hK.out _ _ ⟨((cell_far (p := ⟨gb537, _, none⟩) NB520_537.out _).trans (((cell_far (p := ⟨gb537, _, none⟩) NB520_537.out _).trans (hHeld.1)))), ((cell_far (p := ⟨gb537, _, none⟩) NB520_537.out _).trans (((cell_far (p := ⟨gb537, _, none⟩) NB520_537.out _).trans (hHeld.2))))⟩ (fun hHeld => ?_)
   clear hK K
   refine done_ (done_of HT_.out (by kernel_rfl)) ?_
   try go_wp2
   go_loopg [10] kj7 (fun kq v10 w' => ∃ (x10_3 : Int), v10 = .int .i64 x10_3 ∧ Aside0 (laws_FnVolCount.l0 kq (1 + ((l1.length : Int) % 8)) x10_3 t515 t516 t515 y534 = some r) ∧ Aside0 (kq ≤ kj7) ∧ Aside0 (Kd.Q (Kd.int .i64) 3 w' w.heap.size (fun k_ => some k_ ≠ ((.slice Ao46 y534.length co46) : Value).ownBlock) (.slice Ao12 t516.length co12) t516) ∧ Aside0 (Kd.Q (Kd.int .i64) 3 w' w.heap.size (fun k_ => some k_ ≠ ((.slice Ao12 t516.length co12) : Value).ownBlock) (.slice Ao46 y534.length co46) y534) ∧ Aside0 (w'.heap[gb520]? = some (.cells #[.string t515, (.slice Ao12 t516.length co12)] 38 (0, 0))) ∧ Aside0 (w'.heap[gb537]? = some (.cells #[.string t515, (.slice Ao46 y534.length co46)] 38 (0, 0))) ∧ Aside0 (Below w.heap.size w w'))
   case atStart => exact ⟨(1), ze, H', ⟨Nat.le_refl _⟩, ⟨by (with_reducible repeat (first | apply Kd.Q_alloc | apply Kd.Q_drewN | apply Kd.Q_drew)); exact Kd.Q_mono (Kd.Q_far (p := ⟨gb537, 1, none⟩) (Kd.Q_far (p := ⟨gb537, 0, none⟩) (Kd.Q_types HO_521001.out BK537.out (by decide)) (fun _ hk => hk.2) (.string t515)) (fun _ hk => hk.2) (.slice Ao46 y534.length co46)) (fun _ hk => hk.1.2)⟩, ⟨Kd.Q_of_R (by (with_reducible repeat (first | apply Kd.R_alloc | apply Kd.R_drewN | apply Kd.R_drew)); exact Kd.R_mono (Kd.R_far (p := ⟨gb537, 1, none⟩) (Kd.R_far (p := ⟨gb537, 0, none⟩) (Kd.R_types HO536.out BK537.out (by decide)) (fun _ hk => hk.2) (.string t515)) (fun _ hk => hk.2) (.slice Ao46 y534.length co46)) (fun _ hk => hk.1.2))⟩, ⟨zk BK520⟩, ⟨zp BK537⟩, ⟨zb HB⟩⟩
   case round =>
    clear H'
    try clear p2
    try clear c3
    try clear c33
    try clear c34
    obtain ⟨x10_3, rfl, HA, HK3, HO_521001, HO_538001, BK520, BK537, HB⟩ := hrel
    cases gk with
    | zero => exact absurd HA.out (by simp [laws_FnVolCount.l0])
    | succ k3 =>
     have H := HA.out
     clear HA
     simp only [laws_FnVolCount.l0] at H
     by_cases c49 : x10_3 ≤ 8
     rotate_left
     · rw [if_neg c49] at H
       have c49b0 : decide (x10_3 ≤ 8) = false := decide_eq_false c49
       clear c49
       obtain rfl := Option.some.inj H
       go_wp2
       go_ret
       exact ⟨zv, (zb HB)⟩
     rw [if_pos c49] at H
     have c49b0 : decide (x10_3 ≤ 8) = true := decide_eq_true c49
     clear c49
     have HC50 := am H
     clear H
     go_upto_if 69 with (fail)
     go_cut [11] (fun v11 wc => ∃ (kq : Nat) (x11_49 : Int), v11 = .int .i64 x11_49 ∧ Aside0 (laws_FnVolCount.j3 kq (1 + ((l1.length : Int) % 8)) x10_3 x11_49 t515 t516 t515 y534 = some r) ∧ Aside0 (kq ≤ k3) ∧ Aside0 (Kd.Q (Kd.int .i64) 3 wc w.heap.size (fun k_ => some k_ ≠ ((.slice Ao46 y534.length co46) : Value).ownBlock) (.slice Ao12 t516.length co12) t516) ∧ Aside0 (Kd.Q (Kd.int .i64) 3 wc w.heap.size (fun k_ => some k_ ≠ ((.slice Ao12 t516.length co12) : Value).ownBlock) (.slice Ao46 y534.length co46) y534) ∧ Aside0 (wc.heap[gb520]? = some (.cells #[.string t515, (.slice Ao12 t516.length co12)] 38 (0, 0))) ∧ Aside0 (wc.heap[gb537]? = some (.cells #[.string t515, (.slice Ao46 y534.length co46)] 38 (0, 0))) ∧ Aside0 (Below w.heap.size w wc))
     case first =>
      have H := HC50.out
      clear HC50
      by_cases c51 : x10_3 = (1 + ((l1.length : Int) % 8))
      · rw [if_pos c51] at H
        have c51b0 : (x10_3 == (1 + ((l1.length : Int) % 8))) = true := beq_iff_eq.mpr c51
        have c51b1 : (x10_3 != (1 + ((l1.length : Int) % 8))) = false := bne_eq_false_iff_eq.mpr c51
        clear c51
        (first | rw [c51b0] | (simp only [i64_w, i32_w]; rw [c51b0]) | skip)
        have H' := am H
        clear H
        go_wp2
        go_meet
        case rel => exact ⟨_, (1), ze, H', ⟨by have := HJ2.out; have := HJ7.out; have := HK3.out; first | omega | exact Nat.le_refl _⟩, ⟨by (with_reducible repeat (first | apply Kd.Q_alloc | apply Kd.Q_drewN | apply Kd.Q_drew)); exact HO_521001.out⟩, ⟨by (with_reducible repeat (first | apply Kd.Q_alloc | apply Kd.Q_drewN | apply Kd.Q_drew)); exact HO_538001.out⟩, ⟨zk BK520⟩, ⟨zk BK537⟩, ⟨zb HB⟩⟩
      rw [if_neg c51] at H
      have c51b0 : (x10_3 == (1 + ((l1.length : Int) % 8))) = false := beq_eq_false_iff_ne.mpr c51
      have c51b1 : (x10_3 != (1 + ((l1.length : Int) % 8))) = true := bne_iff_ne.mpr c51
      (first | rw [c51b0] | (simp only [i64_w, i32_w]; rw [c51b0]) | skip)
      have H' := am H
      clear H
      go_wp2
      go_meet
      case rel => exact ⟨_, (0), ze, H', ⟨by have := HJ2.out; have := HJ7.out; have := HK3.out; first | omega | exact Nat.le_refl _⟩, ⟨by (with_reducible repeat (first | apply Kd.Q_alloc | apply Kd.Q_drewN | apply Kd.Q_drew)); exact HO_521001.out⟩, ⟨by (with_reducible repeat (first | apply Kd.Q_alloc | apply Kd.Q_drewN | apply Kd.Q_drew)); exact HO_538001.out⟩, ⟨zk BK520⟩, ⟨zk BK537⟩, ⟨zb HB⟩⟩
     clear HC50
     try clear p2
     try clear c3
     try clear c4
     try clear c5
     try clear c33
     try clear c34
     try clear c49
     try clear c49b0
     try clear c51
     try clear c51b0
     try clear c51b1
     try clear p2
     obtain ⟨kq, x11_49, rfl, HA, HJ49, HO_521001, HO_538001, BK520, BK537, HB⟩ := hcut
     cases kq with
     | zero => exact absurd HA.out (by simp [laws_FnVolCount.j3])
     | succ kj49 =>
      have H := HA.out
      clear HA
      simp only [laws_FnVolCount.j3] at H
      replace H := obs H
      obtain ⟨t538, A520, H⟩ := H
      replace H : ((impl_VolUses.f kj49 t515 t516 x10_3).bind fun t539 => (if t538 = (wrap64 (t539 + x11_49)) then (laws_FnVolCount.l0 kj49 (1 + ((l1.length : Int) % 8)) (wrap64 (x10_3 + 1)) t515 t516 t515 y534) else (some false))) = some r := H
      have A52 := am A520
      clear A520
      replace H := obs H
      obtain ⟨t539, A530, H⟩ := H
      replace H : (if t538 = (wrap64 (t539 + x11_49)) then (laws_FnVolCount.l0 kj49 (1 + ((l1.length : Int) % 8)) (wrap64 (x10_3 + 1)) t515 t516 t515 y534) else (some false)) = some r := H
      have A53 := am A530
      clear A530
      by_cases c54 : t538 = (wrap64 (t539 + x11_49))
      rotate_left
      · rw [if_neg c54] at H
        have c54b0 : (t538 == (wrap64 (t539 + x11_49))) = false := beq_eq_false_iff_ne.mpr c54
        have c54b1 : (t538 != (wrap64 (t539 + x11_49))) = true := bne_iff_ne.mpr c54
        exact Bool.noConfusion ((Option.some.inj H).trans hr_)
      rw [if_pos c54] at H
      have c54b0 : (t538 == (wrap64 (t539 + x11_49))) = true := beq_iff_eq.mpr c54
      have c54b1 : (t538 != (wrap64 (t539 + x11_49))) = false := bne_eq_false_iff_eq.mpr c54
      clear c54
      have H' := am H
      clear H
      try go_wp2
      replace HO_521001 := am (Kd.Q_drew HO_521001.out)
      replace HO_538001 := am (Kd.Q_drew HO_538001.out)
      replace BK520 := am (blk_drew BK520.out)
      replace BK537 := am (blk_drew BK537.out)
      replace HB := am (below_drew1 HB.out)
      refine start_ (n := 9) (S := fun w' => w'.cell? ⟨gb537, 0, none⟩ = some (.string t515) ∧ w'.cell? ⟨gb537, 1, none⟩ = some (.slice Ao46 y534.length co46) ∧ w'.cell? ⟨gb520, 0, none⟩ = some (.string t515) ∧ w'.cell? ⟨gb520, 1, none⟩ = some (.slice Ao12 t516.length co12)) (ds := []) (bs 9 0) (by kernel_rfl) rfl rfl ⟨ce0 BK537, ce1 BK537, ce0 BK520, ce1 BK520⟩ (fun hHeld => ?_); refine with_tabW laws_FnVolCount.tab15 laws_FnVolCount.bits15 (fun HT_ HW_ => ?_)
      generalize wc.drew = w55 at HO_521001 HO_538001 BK520 BK537 HB hHeld ⊢
      refine pu 1 71 9 2 rfl rfl ?_
      refine pu 4 74 9 18 rfl rfl ?_
      refine pu 6 76 9 82 rfl rfl ?_
      refine ta4 0 70 9 83 rfl rfl hHeld ?_
      refine ta4 3 73 9 91 rfl rfl hHeld ?_
      refine oz 2 9 95 rfl rfl (fun K hK => ?_)
      refine gs Try.func27 #[.agg #[.string t515, .slice Ao46 y534.length co46], .int .i64 x10_3] rfl rfl ?_
      with_reducible refine (impl_VolUses.calls kj49 t515 _ _ y534 x10_3 t538 _ ?side1 ?side2 A52.out).mono ?_
      (case side1 => exact zc (Kd.Q_reads' HO_538001.out).2.2)
      (case side2 => exact (Kd.Q_reads' HO_538001.out).2.1)
      rintro e w56 ⟨rfl, hb⟩
      refine ⟨_, rfl, ?_⟩
      replace HO_521001 := am (Kd.Q_below (by (with_reducible repeat (first | apply Kd.Q_alloc | apply Kd.Q_drewN | apply Kd.Q_drew)); exact HO_521001.out) hb)
      replace HO_538001 := am (Kd.Q_below (by (with_reducible repeat (first | apply Kd.Q_alloc | apply Kd.Q_drewN | apply Kd.Q_drew)); exact HO_538001.out) hb)
      replace BK520 := am (blk_below (zk BK520) hb)
      replace BK537 := am (blk_below (zk BK537) hb)
      replace HB := am (below_step (zb HB) hb)
      (try clear hb)
      (try clear hb2)
      (try clear hk)
      (try clear hi)
      refine hK.out _ _ ⟨ce0 BK537, ce1 BK537, ce0 BK520, ce1 BK520⟩ (fun hHeld => ?_)
      clear hK K
      refine norm_ (a' := ?_) ?_ ?_
      rotate_left
      · show Act.put _ (some 72) _ = _
        simp only [Act.put, List.setIfInBounds_toArray, List.set_cons_zero, List.set_cons_succ, i64_w, i32_w]
        rfl
      refine oz 5 9 127 rfl rfl (fun K hK => ?_)
      refine gs Try.func27 #[.agg #[.string t515, .slice Ao12 t516.length co12], .int .i64 x10_3] rfl rfl ?_
      with_reducible refine (impl_VolUses.calls kj49 t515 _ _ t516 x10_3 t539 _ ?side1 ?side2 A53.out).mono ?_
      (case side1 => exact zc (Kd.Q_reads' HO_521001.out).2.2)
      (case side2 => exact (Kd.Q_reads' HO_521001.out).2.1)
      rintro e w57 ⟨rfl, hb⟩
      refine ⟨_, rfl, ?_⟩
      replace HO_521001 := am (Kd.Q_below (by (with_reducible repeat (first | apply Kd.Q_alloc | apply Kd.Q_drewN | apply Kd.Q_drew)); exact HO_521001.out) hb)
      replace HO_538001 := am (Kd.Q_below (by (with_reducible repeat (first | apply Kd.Q_alloc | apply Kd.Q_drewN | apply Kd.Q_drew)); exact HO_538001.out) hb)
      replace BK520 := am (blk_below (zk BK520) hb)
      replace BK537 := am (blk_below (zk BK537) hb)
      replace HB := am (below_step (zb HB) hb)
      (try clear hb)
      (try clear hb2)
      (try clear hk)
      (try clear hi)
      refine hK.out _ _ ⟨ce0 BK537, ce1 BK537, ce0 BK520, ce1 BK520⟩ (fun hHeld => ?_)
      clear hK K
      refine norm_ (a' := ?_) ?_ ?_
      rotate_left
      · show Act.put _ (some 75) _ = _
        simp only [Act.put, List.setIfInBounds_toArray, List.set_cons_zero, List.set_cons_succ, i64_w, i32_w]
        rfl
      refine pu 7 77 9 255 rfl rfl ?_
      refine pu 8 78 9 511 rfl rfl ?_
      refine done_ (done_of HT_.out (by kernel_rfl)) ?_
      try go_wp2
      go_roundg kj49
      case measure => have := HJ2.out; have := HJ7.out; have := HK3.out; have := HJ49.out; omega
      case rel => exact ⟨(wrap64 (x10_3 + 1)), ze, H', ⟨by have := HJ2.out; have := HJ7.out; have := HK3.out; have := HJ49.out; omega⟩, ⟨by (with_reducible repeat (first | apply Kd.Q_alloc | apply Kd.Q_drewN | apply Kd.Q_drew)); exact HO_521001.out⟩, ⟨by (with_reducible repeat (first | apply Kd.Q_alloc | apply Kd.Q_drewN | apply Kd.Q_drew)); exact HO_538001.out⟩, ⟨zk BK520⟩, ⟨zk BK537⟩, ⟨zb HB⟩⟩
/-- THE ONE PURE STATEMENT of laws_FnVolCount: yours. -/
def laws_FnVolCount.Pure : Prop := ∀ (l0 : List Int) (l1 : List Int), l0.length ≤ maxLen → l0.length * 1 ≤ 140737488351232 → (∀ x ∈ l0, (Lit.int .u8 x).wf = true) → l1.length ≤ maxLen → l1.length * 1 ≤ 140737488351232 → (∀ x ∈ l1, (Lit.int .u8 x).wf = true) → ∃ k, laws_FnVolCount.f k l0 l1 = some true
theorem laws_FnVolCount.walk (P : laws_FnVolCount.Pure) (a0 : Option Addr) (len0 cap0 : Nat) (z0 : List Int) (a1 : Option Addr) (len1 cap1 : Nat) (z1 : List Int) (w : World) (w0 : (a0 = none ∧ len0 = 0 ∧ cap0 = 0 ∧ z0 = []) ∨ ∃ x, a0 = some x ∧ len0 ≤ cap0 ∧ cap0 ≤ maxLen ∧ z0.length = cap0 ∧ (∀ i, i < z0.length → w.cell? (x.add i) = some (.int .u8 (z0.getD i 0))) ∧ ∀ n ∈ z0, (Lit.int .u8 n).wf = true) (y0 : len0 * 1 ≤ 140737488351232) (w1 : (a1 = none ∧ len1 = 0 ∧ cap1 = 0 ∧ z1 = []) ∨ ∃ x, a1 = some x ∧ len1 ≤ cap1 ∧ cap1 ≤ maxLen ∧ z1.length = cap1 ∧ (∀ i, i < z1.length → w.cell? (x.add i) = some (.int .u8 (z1.getD i 0))) ∧ ∀ n ∈ z1, (Lit.int .u8 n).wf = true) (y1 : len1 * 1 ≤ 140737488351232) :
 Calls Try.prog 7 #[.slice a0 len0 cap0, .slice a1 len1 cap1] w fun e w' => e = .returned (.bool true) ∧ Below w.heap.size w w' := by
 obtain ⟨l0, rfl, hr0, hm0, hw0, hc0⟩ := ReadsInt.ofRowC w0
 obtain ⟨l1, rfl, hr1, hm1, hw1, hc1⟩ := ReadsInt.ofRowC w1
 obtain ⟨k, h⟩ := P l0 l1 hm0 y0 hw0 hm1 y1 hw1
 refine (laws_FnVolCount.calls k _ _ l0 _ _ l1 true w (Kd.C_of_reads (d := (0 : Int)) (h1 := fun _ => rfl) hr0) hc0 (Kd.C_of_reads (d := (0 : Int)) (h1 := fun _ => rfl) hr1) hc1 h rfl).mono ?_
 rintro e w' ⟨rfl, hd⟩
 exact ⟨rfl, hd⟩
end Go.Proofs.Ytooamacekmjpaaa.PFnVolCount
