/- The walk: each function that the law comes to as a plain Lean function, and a proof that the Go code answers so. Written by this session's program over the kit's printer. -/
import Derived.Test.YtooamacekmjpaaaZ
import Derived.Test.YtooamacekmjpaaaQFnVolForm0
import Derived.Test.YtooamacekmjpaaaQFnVolForm10
import Derived.Test.YtooamacekmjpaaaQFnVolForm11
namespace Go.Proofs.Ytooamacekmjpaaa.PFnVolForm
open Go.RowKit Go.Proofs.YtooamacekmjpaaaW.PrintWords Go.Proofs.YtooamacekmjpaaaW.PrintLast Go.Proofs.YtooamacekmjpaaaW.PrintMore
attribute [local go_sem] max2_int min2_int max_two min_two max_three min_three max_four min_four   -- for this text's walks alone
set_option linter.unusedVariables false
set_option linter.unusedSimpArgs false
/-! ### laws_FnVolForm: function 4 -/
mutual
def laws_FnVolForm.j0 : Nat → List Int → List Int → Bool → Option (Bool)
 | 0, _, _, _ => none
 | k + 1, x0, x1, x17 => if x17 = true then (some true) else ((spec_DrawVolOk.f k x0).bind fun bt486 => ((impl_VolOk.f k bt486.1 bt486.2).bind fun t491 => ((spec_VolOk.f k bt486.1 bt486.2).bind fun t492 => (if (t491 != t492) = true then (laws_FnVolForm.j1 k x1 t491 true bt486.1 bt486.2) else (laws_FnVolForm.j1 k x1 t491 (!t491) bt486.1 bt486.2)))))
def laws_FnVolForm.j1 : Nat → List Int → Bool → Bool → ByteArray → List Int → Option (Bool)
 | 0, _, _, _, _, _ => none
 | k + 1, x1, x6, x29, x491000, x491001 => if x29 = true then ((spec_VolOk.f k x491000 x491001).bind fun t493 => (some (x6 == t493))) else (if (x491001.length : Int) = 0 then (none) else ((some (([] : List Int) : List Int)).bind fun y494 => (if y494.length + x491001.length < 17592186044416 then ((some (y494 ++ x491001 : List Int)).bind fun y497 => (if 0 ≤ ((x1.length : Int) % (x491001.length : Int)) then (if ((x1.length : Int) % (x491001.length : Int)) < (y497.length : Int) then ((some (([] : List Int) : List Int)).bind fun y502 => (if y502.length + x491001.length < 17592186044416 then ((some (y502 ++ x491001 : List Int)).bind fun y505 => (if ((x1.length : Int) % (x491001.length : Int)) < (y505.length : Int) then ((impl_VolOk.f k x491000 (y497.set (((x1.length : Int) % (x491001.length : Int)) : Int).toNat ((x1.length : Int) % 9))).bind fun t510 => (if t510 = true then ((impl_VolOk.f k x491000 (y505.set (((x1.length : Int) % (x491001.length : Int)) : Int).toNat 9)).bind fun t511 => (if t511 = true then (some false) else ((impl_VolOk.f k x491000 ([] : List Int)).bind fun t512 => (if t512 = true then (some false) else ((impl_VolOk.f k (⟨#[69]⟩ : ByteArray) x491001).bind fun t513 => (if t513 = true then (some false) else (some (decide ((x491001.length : Int) ≤ 6))))))))) else (some false))) else (none))) else (none))) else (none)) else (none))) else (none))))
end
def laws_FnVolForm.f (k : Nat) (l0 : List Int) (l1 : List Int) : Option (Bool) := if (l0.length : Int) > 1048576 then (laws_FnVolForm.j0 k l0 l1 true) else (laws_FnVolForm.j0 k l0 l1 (decide ((l1.length : Int) > 1048576)))
theorem laws_FnVolForm.mono_l : ∀ k, (∀ y0 y1 y2, LeO (laws_FnVolForm.j0 k y0 y1 y2) (laws_FnVolForm.j0 (k + 1) y0 y1 y2)) ∧ (∀ y0 y1 y2 y3 y4, LeO (laws_FnVolForm.j1 k y0 y1 y2 y3 y4) (laws_FnVolForm.j1 (k + 1) y0 y1 y2 y3 y4))
 | 0 => ⟨fun _ _ _ r h => by simp [laws_FnVolForm.j0] at h, fun _ _ _ _ _ r h => by simp [laws_FnVolForm.j1] at h⟩
 | k + 1 => by
  obtain ⟨ih0, ih1⟩ := laws_FnVolForm.mono_l k
  refine ⟨?_, ?_⟩
  · intro y0 y1 y2
    unfold laws_FnVolForm.j0
    exact mo5 ih0 ih1 @impl_VolOk.mono @spec_DrawVolOk.mono @spec_VolOk.mono
  intro y0 y1 y2 y3 y4
  unfold laws_FnVolForm.j1
  exact mo5 ih0 ih1 @impl_VolOk.mono @spec_DrawVolOk.mono @spec_VolOk.mono
theorem laws_FnVolForm.mono : ∀ a0 a1 k, LeO (laws_FnVolForm.f k a0 a1) (laws_FnVolForm.f (k + 1) a0 a1) := by
 intro a0 a1 k
 obtain ⟨ih0, ih1⟩ := laws_FnVolForm.mono_l k
 unfold laws_FnVolForm.f
 exact mo5 ih0 ih1 @impl_VolOk.mono @spec_DrawVolOk.mono @spec_VolOk.mono
def laws_FnVolForm.T8 : Bool × List (List Nat × List Nat) := (true, [([], []), ([0], [0]), ([], []), ([], []), ([3], [3]), ([2, 4], [2, 4]), ([1, 5], [1, 5]), ([], []), ([7, 6, 5, 0, 1, 2, 3, 4, 5, 6, 7], [6, 7])])
def laws_FnVolForm.B8 : List Nat := [0, 1, 0, 0, 8, 28, 63, 0, 255]
theorem laws_FnVolForm.tab8 : rtab .any (opsOf Try.f4 8) = laws_FnVolForm.T8 := by kernel_rfl
theorem laws_FnVolForm.bits8 : waitsOk laws_FnVolForm.T8.2 laws_FnVolForm.B8 = true := by kernel_rfl
def laws_FnVolForm.T10 : Bool × List (List Nat × List Nat) := (true, [([], []), ([0], [0]), ([], []), ([], []), ([3], [3]), ([2, 4], [2, 4]), ([1, 5], [1, 5]), ([], []), ([7, 6, 5, 0, 1, 2, 3, 4, 5, 6, 7], [6, 7])])
def laws_FnVolForm.B10 : List Nat := [0, 1, 0, 0, 8, 28, 63, 0, 255]
theorem laws_FnVolForm.tab10 : rtab .any (opsOf Try.f4 10) = laws_FnVolForm.T10 := by kernel_rfl
theorem laws_FnVolForm.bits10 : waitsOk laws_FnVolForm.T10.2 laws_FnVolForm.B10 = true := by kernel_rfl
set_option maxHeartbeats 8000000 in
set_option maxRecDepth 100000 in
theorem laws_FnVolForm.calls (k : Nat) (A0 : Option Addr) (c0 : Nat) (l0 : List Int) (A1 : Option Addr) (c1 : Nat) (l1 : List Int) (r : Bool) (w : World) (hr0 : Kd.C (Kd.int .u8) w A0 l0.length l0) (hc0 : l0.length ≤ c0) (hr1 : Kd.C (Kd.int .u8) w A1 l1.length l1) (hc1 : l1.length ≤ c1) (h : laws_FnVolForm.f k l0 l1 = some r) (hr_ : r = true) :
 Calls Try.prog 4 #[.slice A0 l0.length c0, .slice A1 l1.length c1] w fun e w' => e = .returned (.bool r) ∧ Below w.heap.size w w' := by
 have hu38 := Try.underlying38
 have HR0 := am hr0
 have HC0 := am hc0
 clear hr0 hc0
 have HR1 := am hr1
 have HC1 := am hc1
 clear hr1 hc1
 have HB := am (Below.refl w.heap.size w)
 have H : (if (l0.length : Int) > 1048576 then (laws_FnVolForm.j0 k l0 l1 true) else (laws_FnVolForm.j0 k l0 l1 (decide ((l1.length : Int) > 1048576)))) = some r := h
 clear h
 have HC3 := am H
 clear H
 go_enter Try.func4, Try.ntmps4
 go_upto_region 1 with (fail)
 go_cut [17] (fun v17 wc => ∃ (kq : Nat) (x17_2 : Bool), v17 = .bool x17_2 ∧ Aside0 (laws_FnVolForm.j0 kq l0 l1 x17_2 = some r) ∧ Aside0 (kq ≤ k) ∧ Aside0 (Below w.heap.size w wc))
 case first =>
  have H := HC3.out
  clear HC3
  by_cases c4 : (l0.length : Int) > 1048576
  · rw [if_pos c4] at H
    have c4b0 : decide (1048576 < (l0.length : Int)) = true := decide_eq_true c4
    have c4b1 : decide (1048576 < l0.length) = true := decide_eq_true (by omega)
    clear c4
    (first | rw [c4b0] | (simp only [i64_w, i32_w]; rw [c4b0]) | skip)
    have H' := am H
    clear H
    go_wp2
    go_meet
    case rel => exact ⟨_, (true), ze, H', ⟨by first | omega | exact Nat.le_refl _⟩, ⟨zb HB⟩⟩
  rw [if_neg c4] at H
  have c4b0 : decide (1048576 < (l0.length : Int)) = false := decide_eq_false c4
  have c4b1 : decide (1048576 < l0.length) = false := decide_eq_false (by omega)
  clear c4
  (first | rw [c4b0] | (simp only [i64_w, i32_w]; rw [c4b0]) | skip)
  have H' := am H
  clear H
  go_wp2
  go_meet
  case rel => exact ⟨_, (decide ((l1.length : Int) > 1048576)), ze, H', ⟨by first | omega | exact Nat.le_refl _⟩, ⟨zb HB⟩⟩
 clear HC3
 try clear c1
 try clear p2
 try clear c4
 try clear c4b0
 try clear c4b1
 obtain ⟨kq, x17_2, rfl, HA, HJ2, HB⟩ := hcut
 cases kq with
 | zero => exact absurd HA.out (by simp [laws_FnVolForm.j0])
 | succ kj2 =>
  have H := HA.out
  clear HA
  simp only [laws_FnVolForm.j0] at H
  by_cases c5 : x17_2 = true
  · subst c5
    have H1 : (some true) = some r := by rw [if_pos rfl] at H; exact H
    clear H
    have H := H1
    clear H1
    obtain rfl := Option.some.inj H
    go_wp2
    go_ret
    exact ⟨zv, (zb HB)⟩
  replace c5 := Bool.eq_false_iff.mpr c5
  subst c5
  have H1 : ((spec_DrawVolOk.f kj2 l0).bind fun bt486 => ((impl_VolOk.f kj2 bt486.1 bt486.2).bind fun t491 => ((spec_VolOk.f kj2 bt486.1 bt486.2).bind fun t492 => (if (t491 != t492) = true then (laws_FnVolForm.j1 kj2 l1 t491 true bt486.1 bt486.2) else (laws_FnVolForm.j1 kj2 l1 t491 (!t491) bt486.1 bt486.2))))) = some r := by rw [if_neg (show ¬ (false = true) by decide)] at H; exact H
  clear H
  have H := H1
  clear H1
  replace H := obs H
  obtain ⟨⟨t486, t487⟩, A60, H⟩ := H
  replace H : ((impl_VolOk.f kj2 t486 t487).bind fun t491 => ((spec_VolOk.f kj2 t486 t487).bind fun t492 => (if (t491 != t492) = true then (laws_FnVolForm.j1 kj2 l1 t491 true t486 t487) else (laws_FnVolForm.j1 kj2 l1 t491 (!t491) t486 t487)))) = some r := H
  have A6 := am A60
  clear A60
  replace H := obs H
  obtain ⟨t491, A70, H⟩ := H
  replace H : ((spec_VolOk.f kj2 t486 t487).bind fun t492 => (if (t491 != t492) = true then (laws_FnVolForm.j1 kj2 l1 t491 true t486 t487) else (laws_FnVolForm.j1 kj2 l1 t491 (!t491) t486 t487))) = some r := H
  have A7 := am A70
  clear A70
  have HC8 := am H
  clear H
  go_upto_region 5 with (first | ((with_reducible refine gate_callee (f := 19) rfl ?_); refine gl Try.func19 19 #[.slice A0 l0.length c0] rfl rfl rfl ?_; (with_reducible refine (spec_DrawVolOk.calls kj2 _ _ l0 t486 t487 _ ?side1 ?side2 A6.out).mono ?_); (case side1 => exact zc (Kd.C_below HR0.out HB.out)); (case side2 => exact HC0.out); rintro e w9 ⟨v488, rfl, ho0, hb⟩; refine ⟨_, rfl, ?_⟩; have HO489 := am (Kd.Q_lower ho0 (below_size (zb HB))); replace HB := am (below_step (zb HB) hb); (try clear hb); (try clear hb2); (try clear hk); (try clear hi); (try clear ho0)) | ((with_reducible refine gate_dst (N := 5) rfl ?_); (try (refine gate_guard (by rfl) ?_; dsimp only)); refine bx 38 #[.string (⟨#[]⟩ : ByteArray), .slice none 0 0] ?_; intro gb490 hg w10 hbox hb; replace HO489 := am (Kd.Q_below (by (with_reducible repeat (first | apply Kd.Q_alloc | apply Kd.Q_drewN | apply Kd.Q_drew)); exact HO489.out) hb); have BK490 := am (hbox); have GW490 := am (zn hg (zb HB)); have GE490 := am (zn hg (zb HB)); replace HB := am (below_step (zb HB) hb); clear hb hbox hg; have hcz11_0 := ce0 BK490; have hcz11_1 := ce1 BK490; have hfz11_0 := bfz BK490 0; have hfz11_1 := bfz BK490 1; obtain ⟨Ao12, co12, eo12, _⟩ := Kd.Q_slice HO489.out; subst eo12) | ((with_reducible refine gate_callee (f := 20) rfl ?_); refine gl Try.func20 21 #[.agg #[.string t486, .slice Ao12 t487.length co12]] rfl rfl rfl ?_; (with_reducible refine (impl_VolOk.calls kj2 t486 _ _ t487 t491 _ ?side1 ?side2 A7.out).mono ?_); (case side1 => refine (Kd.Q_reads' (e := 3) (base := w.heap.size) (ok := fun k_ => True) (n := t487.length) (c := co12) ?_).2.2; exact (by (with_reducible repeat (first | apply Kd.Q_alloc | apply Kd.Q_drewN | apply Kd.Q_drew)); exact (Kd.Q_mono (Kd.Q_far (p := ⟨gb490, 1, none⟩) (Kd.Q_far (p := ⟨gb490, 0, none⟩) (Kd.Q_types HO489.out BK490.out (by decide)) (fun _ hk => hk.2) (.string t486)) (fun _ hk => hk.2) (.slice Ao12 t487.length co12)) (fun _ h_ => h_.1)))); (case side2 => exact (Kd.Q_reads' HO489.out).2.1); rintro e w13 ⟨rfl, hb⟩; refine ⟨_, rfl, ?_⟩; replace HO489 := am (Kd.Q_below (by (with_reducible repeat (first | apply Kd.Q_alloc | apply Kd.Q_drewN | apply Kd.Q_drew)); exact (Kd.Q_mono (Kd.Q_far (p := ⟨gb490, 1, none⟩) (Kd.Q_far (p := ⟨gb490, 0, none⟩) (Kd.Q_types HO489.out BK490.out (by decide)) (fun _ hk => hk.2) (.string t486)) (fun _ hk => hk.2) (.slice Ao12 t487.length co12)) (fun _ h_ => h_.1))) hb); replace BK490 := am (blk_below (g := gb490) (o := .cells #[.string t486, .slice Ao12 t487.length co12] 38 (0, 0)) (zp BK490) hb); replace HB := am (below_step (zb HB) hb); (try clear hb); (try clear hb2); (try clear hk); (try clear hi)))
  (try simp only [Act.put, List.setIfInBounds_toArray, List.set_cons_zero, List.set_cons_succ])
  go_cut [29] (fun v29 wc => ∃ (kq : Nat) (x29_7 : Bool), v29 = .bool x29_7 ∧ Aside0 (laws_FnVolForm.j1 kq l1 t491 x29_7 t486 t487 = some r) ∧ Aside0 (kq ≤ kj2) ∧ Aside0 (Kd.Q (Kd.int .i64) 3 wc w.heap.size (fun _ => True) (.slice Ao12 t487.length co12) t487) ∧ Aside0 (wc.heap[gb490]? = some (.cells #[.string t486, (.slice Ao12 t487.length co12)] 38 (0, 0))) ∧ Aside0 (Below w.heap.size w wc))
  case first =>
   have H := HC8.out
   clear HC8
   replace H := obs H
   obtain ⟨t492, A140, H⟩ := H
   replace H : (if (t491 != t492) = true then (laws_FnVolForm.j1 kj2 l1 t491 true t486 t487) else (laws_FnVolForm.j1 kj2 l1 t491 (!t491) t486 t487)) = some r := H
   have A14 := am A140
   clear A140
   by_cases c15 : (t491 != t492) = true
   · rw [if_pos c15] at H
     have c15b0 : (t491 != t492) = true := c15
     (try (have c15b1 : decide (t491 = t492) = false := by simpa using c15))
     (try (have c15b2 : (t491 == t492) = false := by simpa using c15))
     (try (have c15b3 : ¬ (t491 = t492) := by simpa using c15))
     clear c15
     (first | rw [c15b0] | (simp only [i64_w, i32_w]; rw [c15b0]) | skip)
     have H' := am H
     clear H
     have hcz16_0 := ce0 BK490
     have hcz16_1 := ce1 BK490
     have hfz16_0 := bfz BK490 0
     have hfz16_1 := bfz BK490 1
     go_wp2_with (first | ((with_reducible refine gate_callee (f := 21) rfl ?_); refine gl Try.func21 24 #[.agg #[.string t486, .slice Ao12 t487.length co12]] rfl rfl rfl ?_; (with_reducible refine (spec_VolOk.calls kj2 t486 _ _ t487 t492 _ ?side1 ?side2 A14.out).mono ?_); (case side1 => exact zc (Kd.Q_reads' HO489.out).2.2); (case side2 => exact (Kd.Q_reads' HO489.out).2.1); rintro e w17 ⟨rfl, hb⟩; refine ⟨_, rfl, ?_⟩; replace HO489 := am (Kd.Q_below (by (with_reducible repeat (first | apply Kd.Q_alloc | apply Kd.Q_drewN | apply Kd.Q_drew)); exact HO489.out) hb); replace BK490 := am (blk_below (zk BK490) hb); replace HB := am (below_step (zb HB) hb); (try clear hb); (try clear hb2); (try clear hk); (try clear hi)))
     go_meet
     case rel => exact ⟨_, (true), ze, H', ⟨by have := HJ2.out; first | omega | exact Nat.le_refl _⟩, ⟨by (with_reducible repeat (first | apply Kd.Q_alloc | apply Kd.Q_drewN | apply Kd.Q_drew)); exact HO489.out⟩, ⟨zk BK490⟩, ⟨zb HB⟩⟩
   rw [if_neg c15] at H
   have c15b0 : (t491 != t492) = false := by simpa using c15
   (try (have c15b1 : decide (t491 = t492) = true := by simpa using c15))
   (try (have c15b2 : (t491 == t492) = true := by simpa using c15))
   clear c15
   (first | rw [c15b0] | (simp only [i64_w, i32_w]; rw [c15b0]) | skip)
   have H' := am H
   clear H
   have hcz18_0 := ce0 BK490
   have hcz18_1 := ce1 BK490
   have hfz18_0 := bfz BK490 0
   have hfz18_1 := bfz BK490 1
   go_wp2_with (first | ((with_reducible refine gate_callee (f := 21) rfl ?_); refine gl Try.func21 24 #[.agg #[.string t486, .slice Ao12 t487.length co12]] rfl rfl rfl ?_; (with_reducible refine (spec_VolOk.calls kj2 t486 _ _ t487 t492 _ ?side1 ?side2 A14.out).mono ?_); (case side1 => exact zc (Kd.Q_reads' HO489.out).2.2); (case side2 => exact (Kd.Q_reads' HO489.out).2.1); rintro e w19 ⟨rfl, hb⟩; refine ⟨_, rfl, ?_⟩; replace HO489 := am (Kd.Q_below (by (with_reducible repeat (first | apply Kd.Q_alloc | apply Kd.Q_drewN | apply Kd.Q_drew)); exact HO489.out) hb); replace BK490 := am (blk_below (zk BK490) hb); replace HB := am (below_step (zb HB) hb); (try clear hb); (try clear hb2); (try clear hk); (try clear hi)))
   go_meet
   case rel => exact ⟨_, (!t491), ze, H', ⟨by have := HJ2.out; first | omega | exact Nat.le_refl _⟩, ⟨by (with_reducible repeat (first | apply Kd.Q_alloc | apply Kd.Q_drewN | apply Kd.Q_drew)); exact HO489.out⟩, ⟨zk BK490⟩, ⟨zb HB⟩⟩
  clear HC8
  try clear c1
  try clear c2
  try clear p2
  try clear c4
  try clear c4b0
  try clear c4b1
  try clear c5
  try clear c15
  try clear c15b0
  try clear c15b1
  try clear c15b2
  try clear c19
  try clear hcz11_0
  try clear hcz11_1
  try clear hcz16_0
  try clear hcz16_1
  try clear hcz18_0
  try clear hcz18_1
  try clear hfz11_0
  try clear hfz11_1
  try clear hfz16_0
  try clear hfz16_1
  try clear hfz18_0
  try clear hfz18_1
  try clear p2
  obtain ⟨kq, x29_7, rfl, HA, HJ7, HO_491001, BK490, HB⟩ := hcut
  cases kq with
  | zero => exact absurd HA.out (by simp [laws_FnVolForm.j1])
  | succ kj7 =>
   have H := HA.out
   clear HA
   simp only [laws_FnVolForm.j1] at H
   by_cases c20 : x29_7 = true
   · subst c20
     have H1 : ((spec_VolOk.f kj7 t486 t487).bind fun t493 => (some (t491 == t493))) = some r := by rw [if_pos rfl] at H; exact H
     clear H
     have H := H1
     clear H1
     replace H := obs H
     obtain ⟨t493, A210, H⟩ := H
     replace H : (some (t491 == t493)) = some r := H
     have A21 := am A210
     clear A210
     obtain rfl := Option.some.inj H
     have hcz22_0 := ce0 BK490
     have hcz22_1 := ce1 BK490
     have hfz22_0 := bfz BK490 0
     have hfz22_1 := bfz BK490 1
     go_wp2_with (first | ((with_reducible refine gate_callee (f := 21) rfl ?_); refine gl Try.func21 32 #[.agg #[.string t486, .slice Ao12 t487.length co12]] rfl rfl rfl ?_; (with_reducible refine (spec_VolOk.calls kj7 t486 _ _ t487 t493 _ ?side1 ?side2 A21.out).mono ?_); (case side1 => exact zc (Kd.Q_reads' HO_491001.out).2.2); (case side2 => exact (Kd.Q_reads' HO_491001.out).2.1); rintro e w23 ⟨rfl, hb⟩; refine ⟨_, rfl, ?_⟩; replace HO_491001 := am (Kd.Q_below (by (with_reducible repeat (first | apply Kd.Q_alloc | apply Kd.Q_drewN | apply Kd.Q_drew)); exact HO_491001.out) hb); replace BK490 := am (blk_below (zk BK490) hb); replace HB := am (below_step (zb HB) hb); (try clear hb); (try clear hb2); (try clear hk); (try clear hi)))
     go_ret
     exact ⟨zv, (zb HB)⟩
   replace c20 := Bool.eq_false_iff.mpr c20
   subst c20
   have H1 : (if (t487.length : Int) = 0 then (none) else ((some (([] : List Int) : List Int)).bind fun y494 => (if y494.length + t487.length < 17592186044416 then ((some (y494 ++ t487 : List Int)).bind fun y497 => (if 0 ≤ ((l1.length : Int) % (t487.length : Int)) then (if ((l1.length : Int) % (t487.length : Int)) < (y497.length : Int) then ((some (([] : List Int) : List Int)).bind fun y502 => (if y502.length + t487.length < 17592186044416 then ((some (y502 ++ t487 : List Int)).bind fun y505 => (if ((l1.length : Int) % (t487.length : Int)) < (y505.length : Int) then ((impl_VolOk.f kj7 t486 (y497.set (((l1.length : Int) % (t487.length : Int)) : Int).toNat ((l1.length : Int) % 9))).bind fun t510 => (if t510 = true then ((impl_VolOk.f kj7 t486 (y505.set (((l1.length : Int) % (t487.length : Int)) : Int).toNat 9)).bind fun t511 => (if t511 = true then (some false) else ((impl_VolOk.f kj7 t486 ([] : List Int)).bind fun t512 => (if t512 = true then (some false) else ((impl_VolOk.f kj7 (⟨#[69]⟩ : ByteArray) t487).bind fun t513 => (if t513 = true then (some false) else (some (decide ((t487.length : Int) ≤ 6))))))))) else (some false))) else (none))) else (none))) else (none)) else (none))) else (none)))) = some r := by rw [if_neg (show ¬ (false = true) by decide)] at H; exact H
   clear H
   have H := H1
   clear H1
   by_cases c24 : (t487.length : Int) = 0
   · rw [if_pos c24] at H
     exact absurd H (by simp)
   rw [if_neg c24] at H
   have c24b0 : ((t487.length : Int) == 0) = false := beq_eq_false_iff_ne.mpr c24
   have c24b1 : ((t487.length : Int) != 0) = true := bne_iff_ne.mpr c24
   have c24b2 : ¬ (t487 = []) := fun h_ => c24 (by rw [h_]; rfl)
   obtain ⟨y494, hy494⟩ : ∃ y_ : List Int, y_ = (([] : List Int)) := ⟨_, rfl⟩
   replace H : (if y494.length + t487.length < 17592186044416 then ((some (y494 ++ t487 : List Int)).bind fun y497 => (if 0 ≤ ((l1.length : Int) % (t487.length : Int)) then (if ((l1.length : Int) % (t487.length : Int)) < (y497.length : Int) then ((some (([] : List Int) : List Int)).bind fun y502 => (if y502.length + t487.length < 17592186044416 then ((some (y502 ++ t487 : List Int)).bind fun y505 => (if ((l1.length : Int) % (t487.length : Int)) < (y505.length : Int) then ((impl_VolOk.f kj7 t486 (y497.set (((l1.length : Int) % (t487.length : Int)) : Int).toNat ((l1.length : Int) % 9))).bind fun t510 => (if t510 = true then ((impl_VolOk.f kj7 t486 (y505.set (((l1.length : Int) % (t487.length : Int)) : Int).toNat 9)).bind fun t511 => (if t511 = true then (some false) else ((impl_VolOk.f kj7 t486 ([] : List Int)).bind fun t512 => (if t512 = true then (some false) else ((impl_VolOk.f kj7 (⟨#[69]⟩ : ByteArray) t487).bind fun t513 => (if t513 = true then (some false) else (some (decide ((t487.length : Int) ≤ 6))))))))) else (some false))) else (none))) else (none))) else (none)) else (none))) else (none)) = some r := hY hy494 H
   have Ny494 := am hy494
   clear hy494
   by_cases c25 : y494.length + t487.length < 17592186044416
   rotate_left
   · rw [if_neg c25] at H
     exact absurd H (by simp)
   rw [if_pos c25] at H
   have LMc25 := am c25
   clear c25
   obtain ⟨y497, hy497⟩ : ∃ y_ : List Int, y_ = (y494 ++ t487) := ⟨_, rfl⟩
   replace H : (if 0 ≤ ((l1.length : Int) % (t487.length : Int)) then (if ((l1.length : Int) % (t487.length : Int)) < (y497.length : Int) then ((some (([] : List Int) : List Int)).bind fun y502 => (if y502.length + t487.length < 17592186044416 then ((some (y502 ++ t487 : List Int)).bind fun y505 => (if ((l1.length : Int) % (t487.length : Int)) < (y505.length : Int) then ((impl_VolOk.f kj7 t486 (y497.set (((l1.length : Int) % (t487.length : Int)) : Int).toNat ((l1.length : Int) % 9))).bind fun t510 => (if t510 = true then ((impl_VolOk.f kj7 t486 (y505.set (((l1.length : Int) % (t487.length : Int)) : Int).toNat 9)).bind fun t511 => (if t511 = true then (some false) else ((impl_VolOk.f kj7 t486 ([] : List Int)).bind fun t512 => (if t512 = true then (some false) else ((impl_VolOk.f kj7 (⟨#[69]⟩ : ByteArray) t487).bind fun t513 => (if t513 = true then (some false) else (some (decide ((t487.length : Int) ≤ 6))))))))) else (some false))) else (none))) else (none))) else (none)) else (none)) = some r := hY hy497 H
   have Ny497 := am hy497
   clear hy497
   obtain ⟨ji26, hji26⟩ : ∃ j_ : Int, ((l1.length : Int) % (t487.length : Int)) = j_ := ⟨_, rfl⟩
   replace H : (if 0 ≤ (ji26) then (if (ji26) < (y497.length : Int) then ((some (([] : List Int) : List Int)).bind fun y502 => (if y502.length + t487.length < 17592186044416 then ((some (y502 ++ t487 : List Int)).bind fun y505 => (if (ji26) < (y505.length : Int) then ((impl_VolOk.f kj7 t486 (y497.set ((ji26) : Int).toNat ((l1.length : Int) % 9))).bind fun t510 => (if t510 = true then ((impl_VolOk.f kj7 t486 (y505.set ((ji26) : Int).toNat 9)).bind fun t511 => (if t511 = true then (some false) else ((impl_VolOk.f kj7 t486 ([] : List Int)).bind fun t512 => (if t512 = true then (some false) else ((impl_VolOk.f kj7 (⟨#[69]⟩ : ByteArray) t487).bind fun t513 => (if t513 = true then (some false) else (some (decide ((t487.length : Int) ≤ 6))))))))) else (some false))) else (none))) else (none))) else (none)) else (none)) = some r := by first | (rw [hji26] at H; exact H) | (simp only [hji26] at H ⊢; exact H)
   by_cases c27 : 0 ≤ (ji26)
   rotate_left
   · rw [if_neg c27] at H
     exact absurd H (by simp)
   rw [if_pos c27] at H
   have c27b0 : decide (0 ≤ (ji26)) = true := decide_eq_true c27
   clear c27
   by_cases c28 : (ji26) < (y497.length : Int)
   rotate_left
   · rw [if_neg c28] at H
     exact absurd H (by simp)
   rw [if_pos c28] at H
   have c28b0 : decide ((ji26) < (y497.length : Int)) = true := decide_eq_true c28
   clear c28
   obtain ⟨y501, hy501⟩ : ∃ y_ : List Int, y_ = (y497.set ((ji26) : Int).toNat ((l1.length : Int) % 9)) := ⟨_, rfl⟩
   replace H : ((some (([] : List Int) : List Int)).bind fun y502 => (if y502.length + t487.length < 17592186044416 then ((some (y502 ++ t487 : List Int)).bind fun y505 => (if (ji26) < (y505.length : Int) then ((impl_VolOk.f kj7 t486 y501).bind fun t510 => (if t510 = true then ((impl_VolOk.f kj7 t486 (y505.set ((ji26) : Int).toNat 9)).bind fun t511 => (if t511 = true then (some false) else ((impl_VolOk.f kj7 t486 ([] : List Int)).bind fun t512 => (if t512 = true then (some false) else ((impl_VolOk.f kj7 (⟨#[69]⟩ : ByteArray) t487).bind fun t513 => (if t513 = true then (some false) else (some (decide ((t487.length : Int) ≤ 6))))))))) else (some false))) else (none))) else (none))) = some r := hY hy501 H
   have Ny501 := am hy501
   clear hy501
   obtain ⟨y502, hy502⟩ : ∃ y_ : List Int, y_ = (([] : List Int)) := ⟨_, rfl⟩
   replace H : (if y502.length + t487.length < 17592186044416 then ((some (y502 ++ t487 : List Int)).bind fun y505 => (if (ji26) < (y505.length : Int) then ((impl_VolOk.f kj7 t486 y501).bind fun t510 => (if t510 = true then ((impl_VolOk.f kj7 t486 (y505.set ((ji26) : Int).toNat 9)).bind fun t511 => (if t511 = true then (some false) else ((impl_VolOk.f kj7 t486 ([] : List Int)).bind fun t512 => (if t512 = true then (some false) else ((impl_VolOk.f kj7 (⟨#[69]⟩ : ByteArray) t487).bind fun t513 => (if t513 = true then (some false) else (some (decide ((t487.length : Int) ≤ 6))))))))) else (some false))) else (none))) else (none)) = some r := hY hy502 H
   have Ny502 := am hy502
   clear hy502
   by_cases c30 : y502.length + t487.length < 17592186044416
   rotate_left
   · rw [if_neg c30] at H
     exact absurd H (by simp)
   rw [if_pos c30] at H
   have LMc30 := am c30
   clear c30
   obtain ⟨y505, hy505⟩ : ∃ y_ : List Int, y_ = (y502 ++ t487) := ⟨_, rfl⟩
   replace H : (if (ji26) < (y505.length : Int) then ((impl_VolOk.f kj7 t486 y501).bind fun t510 => (if t510 = true then ((impl_VolOk.f kj7 t486 (y505.set ((ji26) : Int).toNat 9)).bind fun t511 => (if t511 = true then (some false) else ((impl_VolOk.f kj7 t486 ([] : List Int)).bind fun t512 => (if t512 = true then (some false) else ((impl_VolOk.f kj7 (⟨#[69]⟩ : ByteArray) t487).bind fun t513 => (if t513 = true then (some false) else (some (decide ((t487.length : Int) ≤ 6))))))))) else (some false))) else (none)) = some r := hY hy505 H
   have Ny505 := am hy505
   clear hy505
   by_cases c31 : (ji26) < (y505.length : Int)
   rotate_left
   · rw [if_neg c31] at H
     exact absurd H (by simp)
   rw [if_pos c31] at H
   have c31b0 : decide ((ji26) < (y505.length : Int)) = true := decide_eq_true c31
   clear c31
   obtain ⟨y509, hy509⟩ : ∃ y_ : List Int, y_ = (y505.set ((ji26) : Int).toNat 9) := ⟨_, rfl⟩
   replace H : ((impl_VolOk.f kj7 t486 y501).bind fun t510 => (if t510 = true then ((impl_VolOk.f kj7 t486 y509).bind fun t511 => (if t511 = true then (some false) else ((impl_VolOk.f kj7 t486 ([] : List Int)).bind fun t512 => (if t512 = true then (some false) else ((impl_VolOk.f kj7 (⟨#[69]⟩ : ByteArray) t487).bind fun t513 => (if t513 = true then (some false) else (some (decide ((t487.length : Int) ≤ 6))))))))) else (some false))) = some r := hY hy509 H
   have Ny509 := am hy509
   clear hy509
   replace H := obs H
   obtain ⟨t510, A330, H⟩ := H
   replace H : (if t510 = true then ((impl_VolOk.f kj7 t486 y509).bind fun t511 => (if t511 = true then (some false) else ((impl_VolOk.f kj7 t486 ([] : List Int)).bind fun t512 => (if t512 = true then (some false) else ((impl_VolOk.f kj7 (⟨#[69]⟩ : ByteArray) t487).bind fun t513 => (if t513 = true then (some false) else (some (decide ((t487.length : Int) ≤ 6))))))))) else (some false)) = some r := H
   have A33 := am A330
   clear A330
   by_cases c34 : t510 = true
   rotate_left
   · replace c34 := Bool.eq_false_iff.mpr c34
     subst c34
     have H1 : (some false) = some r := by rw [if_neg (show ¬ (false = true) by decide)] at H; exact H
     clear H
     have H := H1
     clear H1
     exact Bool.noConfusion ((Option.some.inj H).trans hr_)
   subst c34
   have H1 : ((impl_VolOk.f kj7 t486 y509).bind fun t511 => (if t511 = true then (some false) else ((impl_VolOk.f kj7 t486 ([] : List Int)).bind fun t512 => (if t512 = true then (some false) else ((impl_VolOk.f kj7 (⟨#[69]⟩ : ByteArray) t487).bind fun t513 => (if t513 = true then (some false) else (some (decide ((t487.length : Int) ≤ 6))))))))) = some r := by rw [if_pos rfl] at H; exact H
   clear H
   have H := H1
   clear H1
   replace H := obs H
   obtain ⟨t511, A350, H⟩ := H
   replace H : (if t511 = true then (some false) else ((impl_VolOk.f kj7 t486 ([] : List Int)).bind fun t512 => (if t512 = true then (some false) else ((impl_VolOk.f kj7 (⟨#[69]⟩ : ByteArray) t487).bind fun t513 => (if t513 = true then (some false) else (some (decide ((t487.length : Int) ≤ 6)))))))) = some r := H
   have A35 := am A350
   clear A350
   by_cases c36 : t511 = true
   · subst c36
     have H1 : (some false) = some r := by rw [if_pos rfl] at H; exact H
     clear H
     have H := H1
     clear H1
     exact Bool.noConfusion ((Option.some.inj H).trans hr_)
   replace c36 := Bool.eq_false_iff.mpr c36
   subst c36
   have H1 : ((impl_VolOk.f kj7 t486 ([] : List Int)).bind fun t512 => (if t512 = true then (some false) else ((impl_VolOk.f kj7 (⟨#[69]⟩ : ByteArray) t487).bind fun t513 => (if t513 = true then (some false) else (some (decide ((t487.length : Int) ≤ 6))))))) = some r := by rw [if_neg (show ¬ (false = true) by decide)] at H; exact H
   clear H
   have H := H1
   clear H1
   replace H := obs H
   obtain ⟨t512, A370, H⟩ := H
   replace H : (if t512 = true then (some false) else ((impl_VolOk.f kj7 (⟨#[69]⟩ : ByteArray) t487).bind fun t513 => (if t513 = true then (some false) else (some (decide ((t487.length : Int) ≤ 6)))))) = some r := H
   have A37 := am A370
   clear A370
   by_cases c38 : t512 = true
   · subst c38
     have H1 : (some false) = some r := by rw [if_pos rfl] at H; exact H
     clear H
     have H := H1
     clear H1
     exact Bool.noConfusion ((Option.some.inj H).trans hr_)
   replace c38 := Bool.eq_false_iff.mpr c38
   subst c38
   have H1 : ((impl_VolOk.f kj7 (⟨#[69]⟩ : ByteArray) t487).bind fun t513 => (if t513 = true then (some false) else (some (decide ((t487.length : Int) ≤ 6))))) = some r := by rw [if_neg (show ¬ (false = true) by decide)] at H; exact H
   clear H
   have H := H1
   clear H1
   replace H := obs H
   obtain ⟨t513, A390, H⟩ := H
   replace H : (if t513 = true then (some false) else (some (decide ((t487.length : Int) ≤ 6)))) = some r := H
   have A39 := am A390
   clear A390
   by_cases c40 : t513 = true
   · subst c40
     have H1 : (some false) = some r := by rw [if_pos rfl] at H; exact H
     clear H
     have H := H1
     clear H1
     exact Bool.noConfusion ((Option.some.inj H).trans hr_)
   replace c40 := Bool.eq_false_iff.mpr c40
   subst c40
   have H1 : (some (decide ((t487.length : Int) ≤ 6))) = some r := by rw [if_neg (show ¬ (false = true) by decide)] at H; exact H
   clear H
   have H := H1
   clear H1
   obtain rfl := Option.some.inj H
   have hcz41_0 := ce0 BK490
   have hcz41_1 := ce1 BK490
   have hfz41_0 := bfz BK490 0
   have hfz41_1 := bfz BK490 1
   try go_wp2
   replace HO_491001 := am (Kd.Q_drew HO_491001.out)
   replace BK490 := am (blk_drew BK490.out)
   replace HB := am (below_drew1 HB.out)
   refine start_ (n := 9) (S := fun w' => w'.cell? ⟨gb490, 0, none⟩ = some (.string t486) ∧ w'.cell? ⟨gb490, 1, none⟩ = some (.slice Ao12 t487.length co12)) (ds := []) (bs 9 0) (by kernel_rfl) rfl rfl ⟨ce0 BK490, ce1 BK490⟩ (fun hHeld => ?_); refine with_tabW laws_FnVolForm.tab8 laws_FnVolForm.bits8 (fun HT_ HW_ => ?_)
   generalize wc.drew = w42 at HO_491001 BK490 HB hHeld ⊢
   refine pu 0 40 9 1 rfl rfl ?_
   refine pu 3 43 9 9 rfl rfl ?_
   refine ta2 1 41 9 11 rfl rfl hHeld ?_
   refine ta2 4 44 9 27 rfl rfl hHeld ?_
   refine join_ (σ := Value × Value × Nat) 1 (bs 9 255) (fun s_ => [(42, s_.1), (45, s_.2.1), (8, .pointer (some ⟨s_.2.2, 0, none⟩)), (46, .agg #[.string t486, s_.2.1])]) (fun s_ w' => (w'.cell? ⟨gb490, 0, none⟩ = some (.string t486) ∧ w'.cell? ⟨gb490, 1, none⟩ = some (.slice Ao12 t487.length co12)) ∧ (Kd.R (Kd.int .i64) 3 w' w.heap.size (fun k_ => some k_ ≠ (.slice Ao12 t487.length co12 : Value).ownBlock) s_.2.1 y497) ∧ (Kd.Q (Kd.int .i64) 3 w' w.heap.size (fun k_ => some k_ ≠ (s_.2.1 : Value).ownBlock) (.slice Ao12 t487.length co12) t487) ∧ (w'.heap[gb490]? = some (.cells #[.string t486, .slice Ao12 t487.length co12] 38 (0, 0))) ∧ (w'.heap[s_.2.2]? = some (.cells #[.string (⟨#[]⟩ : ByteArray), .slice none 0 0] 38 (0, 0))) ∧ (w.heap.size ≤ s_.2.2) ∧ (w.heap.size ≤ s_.2.2) ∧ (gb490 ≠ s_.2.2) ∧ (s_.2.2 ≠ gb490) ∧ (Below w.heap.size w w')) ?_ ?_
   rotate_left
   · intro hCont
     refine two_ (i := 2) (j := 7) (Ni := some 42) (Nj := some 8) (bs 9 31) (bs 9 155) rfl rfl rfl rfl (two_of HT_.out (by kernel_rfl)) (by decide) (by decide) (fun K hK => ?_) (fun K hK => ?_)
     · skip
       refine Kd.R_lit_step (Kd.int .i64) _ 3 ?hg (N := 42) ?hd (xs := ([] : List Int)) (inner := []) (ok := fun _ => True) (okp := fun _ => True) ?hr ?hp (fun _ hk => hk) trivial (Below.refl _ _) (Nat.le_refl _) (by simp) ?_; (case hd => rfl); (case hg => rfl); (case hr => first | (go_simp; done) | (go_simp; rfl)); (case hp => exact (Reps.none _ _))
       intro v495 w43 ho44 hb hg_ hnew_
       clear hg_ hnew_
       (first | rw [← Ny494.out] at ho44 | (simp only [Int.reduceToNat] at ho44; rw [← Ny494.out] at ho44))
       have HO496 := am (Kd.R_lower (Kd.R_new' ho44 (Kd.Q_lt (by (with_reducible repeat (first | apply Kd.Q_alloc | apply Kd.Q_drewN | apply Kd.Q_drew)); exact HO_491001.out))) (below_size (zb HB)))
       replace HO_491001 := am (Kd.Q_elder' (by (with_reducible repeat (first | apply Kd.Q_alloc | apply Kd.Q_drewN | apply Kd.Q_drew)); exact HO_491001.out) (Kd.R_base ho44) hb)
       replace BK490 := am (blk_below (zk BK490) hb)
       replace HB := am (below_step (zb HB) hb)
       clear hb ho44
       refine hK.out _ _ ⟨ce0 BK490, ce1 BK490⟩ (fun hHeld => ?_)
       clear hK K
       refine norm_ (a' := ?_) ?_ ?_
       rotate_left
       · show Act.put _ (some 42) _ = _
         simp only [Act.put, List.setIfInBounds_toArray, List.set_cons_zero, List.set_cons_succ, i64_w, i32_w]
         rfl
       refine two_ (i := 5) (j := 7) (Ni := some 45) (Nj := some 8) (bs 9 63) (bs 9 159) rfl rfl rfl rfl (two_of HT_.out (by kernel_rfl)) (by decide) (by decide) (fun K hK => ?_) (fun K hK => ?_)
       · skip
         refine Kd.R_append_rows_step (Kd.int .i64) (w0 := w) w.heap.size (by rfl) (.tmp 42) (.tmp 44) 36 3 (.int .i64 0) 8 rfl Try.underlying36 info3 rfl (by decide) (by omega) v495 y494 t487 _ _ _ (fun k_ => some k_ ≠ (.slice Ao12 t487.length co12 : Value).ownBlock) (fun _ => False) rfl rfl ?aO ?aR (fun _ _ h => h) (fun _ h => h.elim) ?aF ?aB ?aS ?aL ?_
         (case aR => repeat (first | exact (Kd.Q_reads' HO_491001.out).2.2 | (with_reducible refine Kd.C_alloc ?_ _) | (with_reducible refine Kd.C_drewN ?_ _) | (with_reducible refine Kd.C_drew ?_)))
         (case aB => exact (zb HB))
         (case aF => exact (fun k_ hk => Kd.fresh' (Kd.Q_lt (by (with_reducible repeat (first | apply Kd.Q_alloc | apply Kd.Q_drewN | apply Kd.Q_drew)); exact HO_491001.out)) k_ hk))
         (case aO => exact (by (with_reducible repeat (first | apply Kd.R_alloc | apply Kd.R_drewN | apply Kd.R_drew)); exact Kd.R_mono HO496.out (fun _ hk => hk.2)))
         (case aS => exact (below_size (zb HB)))
         (case aL => have := LMc25.out; omega)
         intro v498 w45 ho hb hg hat
         rw [← Ny497.out] at ho
         replace HO_491001 := am (Kd.Q_after (ok := (fun _ => True)) (by (with_reducible repeat (first | apply Kd.Q_alloc | apply Kd.Q_drewN | apply Kd.Q_drew)); exact HO_491001.out) hg hat)
         replace BK490 := am (blk_grown (zk BK490) hg (Kd.R_ne HO496.out BK490.out (by decide)))
         replace HB := am (hb)
         have HO499 := am (ho)
         clear HO496 ho hb hg hat
         obtain ⟨Ao46, co46, eo46⟩ := Kd.R_slice HO499.out
         (first | subst eo46 | (injection eo46 with f1_ f2_ f3_; have f4_ := f1_.symm; have f5_ := f3_.symm; clear f1_ f2_ f3_; subst f4_; subst f5_))
         refine hK.out _ _ ⟨ce0 BK490, ce1 BK490⟩ (fun hHeld => ?_)
         clear hK K
         refine norm_ (a' := ?_) ?_ ?_
         rotate_left
         · show Act.put _ (some 45) _ = _
           simp only [Act.put, List.setIfInBounds_toArray, List.set_cons_zero, List.set_cons_succ, i64_w, i32_w]
           rfl
         refine pu 6 46 9 127 rfl rfl ?_
         refine oz 7 9 255 rfl rfl (fun K hK => ?_)
         refine box_step ?hg (N := 8) ?hd (cs := #[.string (⟨#[]⟩ : ByteArray), .slice none 0 0]) (t := 38) ?hr ?_; (case hd => rfl); (case hg => rfl); (case hr => first | (go_simp; done) | (go_simp; rfl))
         intro gb500 hg w47 hbox hb
         replace HO_491001 := am (Kd.Q_below (by (with_reducible repeat (first | apply Kd.Q_alloc | apply Kd.Q_drewN | apply Kd.Q_drew)); exact HO_491001.out) hb)
         replace HO499 := am (Kd.R_below (zr HO499) hb)
         have BK500 := am (hbox)
         have GW500 := am (zn hg (zb HB))
         have GE500 := am (zn hg (zb HB))
         replace HB := am (below_step (zb HB) hb)
         have NB490_500 := am (zx hg (zk BK490))
         have NB500_490 := am (zy hg (zk BK490))
         replace BK490 := am (blk_below (zk BK490) hb)
         clear hb hbox hg
         refine hK.out _ _ ⟨ce0 BK490, ce1 BK490⟩ (fun hHeld => ?_)
         clear hK K
         refine norm_ (a' := ?_) ?_ ?_
         rotate_left
         · show Act.put _ (some 8) _ = _
           simp only [Act.put, List.setIfInBounds_toArray, List.set_cons_zero, List.set_cons_succ, i64_w, i32_w]
           rfl
         exact norm_ (by simp only [putAll, Act.put, List.setIfInBounds_toArray, List.set_cons_zero, List.set_cons_succ]) (hCont (v495, .slice Ao46 y497.length co46, gb500) _ ⟨hHeld, (zr HO499), (by (with_reducible repeat (first | apply Kd.Q_alloc | apply Kd.Q_drewN | apply Kd.Q_drew)); exact Kd.Q_mono HO_491001.out (fun _ hk => hk.2)), (zk BK490), (zk BK500), GW500.out, GE500.out, NB490_500.out, NB500_490.out, (zb HB)⟩)
       skip
       refine box_step ?hg (N := 8) ?hd (cs := #[.string (⟨#[]⟩ : ByteArray), .slice none 0 0]) (t := 38) ?hr ?_; (case hd => rfl); (case hg => rfl); (case hr => first | (go_simp; done) | (go_simp; rfl))
       intro gb500 hg w45 hbox hb
       replace HO_491001 := am (Kd.Q_below (by (with_reducible repeat (first | apply Kd.Q_alloc | apply Kd.Q_drewN | apply Kd.Q_drew)); exact HO_491001.out) hb)
       replace HO496 := am (Kd.R_below (zr HO496) hb)
       have BK500 := am (hbox)
       have GW500 := am (zn hg (zb HB))
       have GE500 := am (zn hg (zb HB))
       replace HB := am (below_step (zb HB) hb)
       have NB490_500 := am (zx hg (zk BK490))
       have NB500_490 := am (zy hg (zk BK490))
       replace BK490 := am (blk_below (zk BK490) hb)
       clear hb hbox hg
       refine hK.out _ _ ⟨ce0 BK490, ce1 BK490⟩ (fun hHeld => ?_)
       clear hK K
       refine norm_ (a' := ?_) ?_ ?_
       rotate_left
       · show Act.put _ (some 8) _ = _
         simp only [Act.put, List.setIfInBounds_toArray, List.set_cons_zero, List.set_cons_succ, i64_w, i32_w]
         rfl
       refine oz 5 9 191 rfl rfl (fun K hK => ?_)
       refine Kd.R_append_rows_step (Kd.int .i64) (w0 := w) w.heap.size (by rfl) (.tmp 42) (.tmp 44) 36 3 (.int .i64 0) 8 rfl Try.underlying36 info3 rfl (by decide) (by omega) v495 y494 t487 _ _ _ (fun k_ => some k_ ≠ (.slice Ao12 t487.length co12 : Value).ownBlock) (fun _ => False) rfl rfl ?aO ?aR (fun _ _ h => h) (fun _ h => h.elim) ?aF ?aB ?aS ?aL ?_
       (case aR => repeat (first | exact (Kd.Q_reads' HO_491001.out).2.2 | (with_reducible refine Kd.C_alloc ?_ _) | (with_reducible refine Kd.C_drewN ?_ _) | (with_reducible refine Kd.C_drew ?_)))
       (case aB => exact (zb HB))
       (case aF => exact (fun k_ hk => Kd.fresh' (Kd.Q_lt (by (with_reducible repeat (first | apply Kd.Q_alloc | apply Kd.Q_drewN | apply Kd.Q_drew)); exact HO_491001.out)) k_ hk))
       (case aO => exact (by (with_reducible repeat (first | apply Kd.R_alloc | apply Kd.R_drewN | apply Kd.R_drew)); exact Kd.R_mono HO496.out (fun _ hk => hk.2)))
       (case aS => exact (below_size (zb HB)))
       (case aL => have := LMc25.out; omega)
       intro v498 w46 ho hb hg hat
       rw [← Ny497.out] at ho
       replace HO_491001 := am (Kd.Q_after (ok := (fun _ => True)) (by (with_reducible repeat (first | apply Kd.Q_alloc | apply Kd.Q_drewN | apply Kd.Q_drew)); exact HO_491001.out) hg hat)
       replace BK490 := am (blk_grown (zk BK490) hg (Kd.R_ne HO496.out BK490.out (by decide)))
       replace BK500 := am (blk_grown (zk BK500) hg (Kd.R_ne HO496.out BK500.out (by decide)))
       replace HB := am (hb)
       have HO499 := am (ho)
       clear HO496 ho hb hg hat
       obtain ⟨Ao47, co47, eo47⟩ := Kd.R_slice HO499.out
       (first | subst eo47 | (injection eo47 with f1_ f2_ f3_; have f4_ := f1_.symm; have f5_ := f3_.symm; clear f1_ f2_ f3_; subst f4_; subst f5_))
       refine hK.out _ _ ⟨ce0 BK490, ce1 BK490⟩ (fun hHeld => ?_)
       clear hK K
       refine norm_ (a' := ?_) ?_ ?_
       rotate_left
       · show Act.put _ (some 45) _ = _
         simp only [Act.put, List.setIfInBounds_toArray, List.set_cons_zero, List.set_cons_succ, i64_w, i32_w]
         rfl
       refine pu 6 46 9 255 rfl rfl ?_
       exact norm_ (by simp only [putAll, Act.put, List.setIfInBounds_toArray, List.set_cons_zero, List.set_cons_succ]) (hCont (v495, .slice Ao47 y497.length co47, gb500) _ ⟨hHeld, (zr HO499), (by (with_reducible repeat (first | apply Kd.Q_alloc | apply Kd.Q_drewN | apply Kd.Q_drew)); exact Kd.Q_mono HO_491001.out (fun _ hk => hk.2)), (zk BK490), (zk BK500), GW500.out, GE500.out, NB490_500.out, NB500_490.out, (zb HB)⟩)
     skip
     refine box_step ?hg (N := 8) ?hd (cs := #[.string (⟨#[]⟩ : ByteArray), .slice none 0 0]) (t := 38) ?hr ?_; (case hd => rfl); (case hg => rfl); (case hr => first | (go_simp; done) | (go_simp; rfl))
     intro gb500 hg w43 hbox hb
     replace HO_491001 := am (Kd.Q_below (by (with_reducible repeat (first | apply Kd.Q_alloc | apply Kd.Q_drewN | apply Kd.Q_drew)); exact HO_491001.out) hb)
     have BK500 := am (hbox)
     have GW500 := am (zn hg (zb HB))
     have GE500 := am (zn hg (zb HB))
     replace HB := am (below_step (zb HB) hb)
     have NB490_500 := am (zx hg (zk BK490))
     have NB500_490 := am (zy hg (zk BK490))
     replace BK490 := am (blk_below (zk BK490) hb)
     clear hb hbox hg
     refine hK.out _ _ ⟨ce0 BK490, ce1 BK490⟩ (fun hHeld => ?_)
     clear hK K
     refine norm_ (a' := ?_) ?_ ?_
     rotate_left
     · show Act.put _ (some 8) _ = _
       simp only [Act.put, List.setIfInBounds_toArray, List.set_cons_zero, List.set_cons_succ, i64_w, i32_w]
       rfl
     refine oz 2 9 159 rfl rfl (fun K hK => ?_)
     refine Kd.R_lit_step (Kd.int .i64) _ 3 ?hg (N := 42) ?hd (xs := ([] : List Int)) (inner := []) (ok := fun _ => True) (okp := fun _ => True) ?hr ?hp (fun _ hk => hk) trivial (Below.refl _ _) (Nat.le_refl _) (by simp) ?_; (case hd => rfl); (case hg => rfl); (case hr => first | (go_simp; done) | (go_simp; rfl)); (case hp => exact (Reps.none _ _))
     intro v495 w44 ho45 hb hg_ hnew_
     clear hg_ hnew_
     (first | rw [← Ny494.out] at ho45 | (simp only [Int.reduceToNat] at ho45; rw [← Ny494.out] at ho45))
     have HO496 := am (Kd.R_lower (Kd.R_new' ho45 (Kd.Q_lt (by (with_reducible repeat (first | apply Kd.Q_alloc | apply Kd.Q_drewN | apply Kd.Q_drew)); exact HO_491001.out))) (below_size (zb HB)))
     replace HO_491001 := am (Kd.Q_elder' (by (with_reducible repeat (first | apply Kd.Q_alloc | apply Kd.Q_drewN | apply Kd.Q_drew)); exact HO_491001.out) (Kd.R_base ho45) hb)
     replace BK490 := am (blk_below (zk BK490) hb)
     replace BK500 := am (blk_below (zk BK500) hb)
     replace HB := am (below_step (zb HB) hb)
     clear hb ho45
     refine hK.out _ _ ⟨ce0 BK490, ce1 BK490⟩ (fun hHeld => ?_)
     clear hK K
     refine norm_ (a' := ?_) ?_ ?_
     rotate_left
     · show Act.put _ (some 42) _ = _
       simp only [Act.put, List.setIfInBounds_toArray, List.set_cons_zero, List.set_cons_succ, i64_w, i32_w]
       rfl
     refine oz 5 9 191 rfl rfl (fun K hK => ?_)
     refine Kd.R_append_rows_step (Kd.int .i64) (w0 := w) w.heap.size (by rfl) (.tmp 42) (.tmp 44) 36 3 (.int .i64 0) 8 rfl Try.underlying36 info3 rfl (by decide) (by omega) v495 y494 t487 _ _ _ (fun k_ => some k_ ≠ (.slice Ao12 t487.length co12 : Value).ownBlock) (fun _ => False) rfl rfl ?aO ?aR (fun _ _ h => h) (fun _ h => h.elim) ?aF ?aB ?aS ?aL ?_
     (case aR => repeat (first | exact (Kd.Q_reads' HO_491001.out).2.2 | (with_reducible refine Kd.C_alloc ?_ _) | (with_reducible refine Kd.C_drewN ?_ _) | (with_reducible refine Kd.C_drew ?_)))
     (case aB => exact (zb HB))
     (case aF => exact (fun k_ hk => Kd.fresh' (Kd.Q_lt (by (with_reducible repeat (first | apply Kd.Q_alloc | apply Kd.Q_drewN | apply Kd.Q_drew)); exact HO_491001.out)) k_ hk))
     (case aO => exact (by (with_reducible repeat (first | apply Kd.R_alloc | apply Kd.R_drewN | apply Kd.R_drew)); exact Kd.R_mono HO496.out (fun _ hk => hk.2)))
     (case aS => exact (below_size (zb HB)))
     (case aL => have := LMc25.out; omega)
     intro v498 w46 ho hb hg hat
     rw [← Ny497.out] at ho
     replace HO_491001 := am (Kd.Q_after (ok := (fun _ => True)) (by (with_reducible repeat (first | apply Kd.Q_alloc | apply Kd.Q_drewN | apply Kd.Q_drew)); exact HO_491001.out) hg hat)
     replace BK490 := am (blk_grown (zk BK490) hg (Kd.R_ne HO496.out BK490.out (by decide)))
     replace BK500 := am (blk_grown (zk BK500) hg (Kd.R_ne HO496.out BK500.out (by decide)))
     replace HB := am (hb)
     have HO499 := am (ho)
     clear HO496 ho hb hg hat
     obtain ⟨Ao47, co47, eo47⟩ := Kd.R_slice HO499.out
     (first | subst eo47 | (injection eo47 with f1_ f2_ f3_; have f4_ := f1_.symm; have f5_ := f3_.symm; clear f1_ f2_ f3_; subst f4_; subst f5_))
     refine hK.out _ _ ⟨ce0 BK490, ce1 BK490⟩ (fun hHeld => ?_)
     clear hK K
     refine norm_ (a' := ?_) ?_ ?_
     rotate_left
     · show Act.put _ (some 45) _ = _
       simp only [Act.put, List.setIfInBounds_toArray, List.set_cons_zero, List.set_cons_succ, i64_w, i32_w]
       rfl
     refine pu 6 46 9 255 rfl rfl ?_
     exact norm_ (by simp only [putAll, Act.put, List.setIfInBounds_toArray, List.set_cons_zero, List.set_cons_succ]) (hCont (v495, .slice Ao47 y497.length co47, gb500) _ ⟨hHeld, (zr HO499), (by (with_reducible repeat (first | apply Kd.Q_alloc | apply Kd.Q_drewN | apply Kd.Q_drew)); exact Kd.Q_mono HO_491001.out (fun _ hk => hk.2)), (zk BK490), (zk BK500), GW500.out, GE500.out, NB490_500.out, NB500_490.out, (zb HB)⟩)
   rintro ⟨v495, v498, gb500⟩ w48 ⟨hS_, h0_, h1_, h2_, h3_, h4_, h5_, h6_, h7_, h8_⟩
   have HO499 : Aside0 (Kd.R (Kd.int .i64) 3 w48 w.heap.size (fun k_ => some k_ ≠ (.slice Ao12 t487.length co12 : Value).ownBlock) v498 y497) := ⟨h0_⟩
   replace HO_491001 : Aside0 (Kd.Q (Kd.int .i64) 3 w48 w.heap.size (fun k_ => some k_ ≠ (v498 : Value).ownBlock) (.slice Ao12 t487.length co12) t487) := ⟨h1_⟩
   replace BK490 : Aside0 (w48.heap[gb490]? = some (.cells #[.string t486, .slice Ao12 t487.length co12] 38 (0, 0))) := ⟨h2_⟩
   have BK500 : Aside0 (w48.heap[gb500]? = some (.cells #[.string (⟨#[]⟩ : ByteArray), .slice none 0 0] 38 (0, 0))) := ⟨h3_⟩
   have GW500 : Aside0 (w.heap.size ≤ gb500) := ⟨h4_⟩
   have GE500 : Aside0 (w.heap.size ≤ gb500) := ⟨h5_⟩
   have NB490_500 : Aside0 (gb490 ≠ gb500) := ⟨h6_⟩
   have NB500_490 : Aside0 (gb500 ≠ gb490) := ⟨h7_⟩
   replace HB : Aside0 (Below w.heap.size w w48) := ⟨h8_⟩
   clear h0_ h1_ h2_ h3_ h4_ h5_ h6_ h7_ h8_
   have hHeld : w48.cell? ⟨gb490, 0, none⟩ = some (.string t486) ∧ w48.cell? ⟨gb490, 1, none⟩ = some (.slice Ao12 t487.length co12) := hS_
   obtain ⟨Ao49, co49, eo49⟩ := Kd.R_slice HO499.out
   (first | subst eo49 | (injection eo49 with f1_ f2_ f3_; have f4_ := f1_.symm; have f5_ := f3_.symm; clear f1_ f2_ f3_; subst f4_; subst f5_))
   refine norm_ (a' := ?_) ?_ ?_
   rotate_left
   · simp only [putAll, Act.put, List.setIfInBounds_toArray, List.set_cons_zero, List.set_cons_succ]
     rfl
   refine oz 8 9 511 rfl rfl (fun K hK => ?_)
   have hs50 := ce0 BK500
   have hfs50 := bfz BK500 0
   have hns50_0 := NB490_500.out
   have hms50_0 := NB500_490.out
   have hs51 := ce1 BK500
   have hfs51 := bfz BK500 1
   have hns51_0 := NB490_500.out
   have hms51_0 := NB500_490.out
   refine skip_ (w1 := ?_) (by rfl) rfl ?_ ?_
   rotate_left
   · go_simp
     rfl
   refine hK.out _ _ ⟨((cell_far (p := ⟨gb500, _, none⟩) NB490_500.out _).trans (((cell_far (p := ⟨gb500, _, none⟩) NB490_500.out _).trans (hHeld.1)))), ((cell_far (p := ⟨gb500, _, none⟩) NB490_500.out _).trans (((cell_far (p := ⟨gb500, _, none⟩) NB490_500.out _).trans (hHeld.2))))⟩ (fun hHeld => ?_)
   clear hK K
   refine done_ (done_of HT_.out (by kernel_rfl)) ?_
   have n0_ : Aside0 (Kd.Q (Kd.int .i64) 3 ((w48.setCell ⟨gb500, 0, none⟩ (.string t486)).setCell ⟨gb500, 1, none⟩ (.slice Ao49 y497.length co49)) w.heap.size (fun k_ => some k_ ≠ (.slice Ao49 y497.length co49 : Value).ownBlock) (.slice Ao12 t487.length co12) t487) := ⟨by (with_reducible repeat (first | apply Kd.Q_alloc | apply Kd.Q_drewN | apply Kd.Q_drew)); exact Kd.Q_mono (Kd.Q_far (p := ⟨gb500, 1, none⟩) (Kd.Q_far (p := ⟨gb500, 0, none⟩) (Kd.Q_types HO_491001.out BK500.out (by decide)) (fun _ hk => hk.2) (.string t486)) (fun _ hk => hk.2) (.slice Ao49 y497.length co49)) (fun _ hk => hk.1)⟩
   have n1_ : Aside0 (Kd.R (Kd.int .i64) 3 ((w48.setCell ⟨gb500, 0, none⟩ (.string t486)).setCell ⟨gb500, 1, none⟩ (.slice Ao49 y497.length co49)) w.heap.size (fun k_ => some k_ ≠ (.slice Ao12 t487.length co12 : Value).ownBlock) (.slice Ao49 y497.length co49) y497) := ⟨(rf HO499 BK500)⟩
   have n2_ : Aside0 (((w48.setCell ⟨gb500, 0, none⟩ (.string t486)).setCell ⟨gb500, 1, none⟩ (.slice Ao49 y497.length co49)).heap[gb490]? = some (.cells #[.string t486, .slice Ao12 t487.length co12] 38 (0, 0))) := ⟨zk BK490⟩
   have n3_ : Aside0 (((w48.setCell ⟨gb500, 0, none⟩ (.string t486)).setCell ⟨gb500, 1, none⟩ (.slice Ao49 y497.length co49)).heap[gb500]? = some (.cells #[.string t486, .slice Ao49 y497.length co49] 38 (0, 0))) := ⟨zp BK500⟩
   have n4_ : Aside0 (Below w.heap.size w ((w48.setCell ⟨gb500, 0, none⟩ (.string t486)).setCell ⟨gb500, 1, none⟩ (.slice Ao49 y497.length co49))) := ⟨zb HB⟩
   (try clear HO_491001)
   (try clear HO499)
   (try clear BK490)
   (try clear BK500)
   (try clear HB)
   generalize ((w48.setCell ⟨gb500, 0, none⟩ (.string t486)).setCell ⟨gb500, 1, none⟩ (.slice Ao49 y497.length co49)) = w52 at n0_ n1_ n2_ n3_ n4_ ⊢
   have HO_491001 := n0_
   have HO499 := n1_
   have BK490 := n2_
   have BK500 := n3_
   have HB := n4_
   clear n0_ n1_ n2_ n3_ n4_
   have hnb53 := NB500_490.out
   have hnc53 := NB490_500.out
   have hcz54_0 := ce0 BK500
   have hcz54_1 := ce1 BK500
   have hfz54_0 := bfz BK500 0
   have hfz54_1 := bfz BK500 1
   have p29 : 0 ≤ ((ji26) : Int) := of_decide_eq_true zl
   have q29 : ((ji26) : Int) < ((y497.length : Int) : Int) := of_decide_eq_true zl
   obtain ⟨go29, co29, eo29, gb29, gl29, cl29, HG29⟩ := Kd.R_form HO499.out (by omega)
   (first | cases eo29 | (injection eo29 with ea_ en_ ec_; (first | subst ea_ | (injection ea_ with ea_; subst ea_)); subst ec_; clear en_))
   have GB29 := am gb29
   have GG29 := am HG29
   clear gb29 gl29 HG29
   obtain ⟨hx29_0, hf29_0⟩ := Kd.R_celln 0 HO499.out ((ji26) : Int) p29 q29
   replace p29 := eq_true p29
   replace q29 := eq_true q29
   obtain ⟨hy55_, hz55_⟩ := Kd.R_celln 0 HO499.out ((ji26) : Int) (of_decide_eq_true zl) (of_decide_eq_true zl)
   have HP55 := Kd.R_putg HO499.out ((ji26) : Int) ((l1.length : Int) % 9)
   try go_wp2_with (first | ((with_reducible refine gate_store (t := 3) (p := 53) rfl ?_); refine store_event (t := 3) (p := 53) (v := ?vo_w56) (w1 := (w52.setCell ⟨go29, ((ji26) : Int).toNat, none⟩ (.int .i64 ((l1.length : Int) % 9)))) ?hg ?ho ?hn ?hr ?_; (case ho => rfl); (case hg => rfl); (case hn => rfl); (case hr => first | (go_simp; done) | (go_simp; rfl)); intro w56 hw; have hg : w52.grownBy w56 (some go29) := (by rw [hw]; exact HP55.2); have hp_ : Kd.R (Kd.int .i64) 3 w56 w.heap.size (fun k_ => some k_ ≠ (.slice Ao12 t487.length co12 : Value).ownBlock) (.slice (some ⟨go29, 0, none⟩) y497.length co49) y501 := (by rw [hw, Ny501.out]; exact HP55.1); clear HP55; replace HO_491001 := am (Kd.Q_after (v := (.slice (some ⟨go29, 0, none⟩) y497.length co49)) (v1 := (.slice (some ⟨go29, 0, none⟩) y497.length co49)) (ok := (fun _ => True)) (by (with_reducible repeat (first | apply Kd.Q_alloc | apply Kd.Q_drewN | apply Kd.Q_drew)); exact Kd.Q_mono HO_491001.out (fun _ hk => ⟨trivial, hk⟩)) hg (.inl rfl)); replace BK490 := am (blk_grown (zk BK490) hg (Kd.R_ne HO499.out BK490.out (by decide))); replace BK500 := am (blk_grown (zk BK500) hg (Kd.R_ne HO499.out BK500.out (by decide))); replace HO499 := am (hp_); replace HB := am ((by rw [hw]; exact below_set (HB.out) GB29.out : Below w.heap.size w w56)); clear hg hw hp_))
   replace HO_491001 := am (Kd.Q_drew HO_491001.out)
   replace HO499 := am (Kd.R_drew HO499.out)
   replace BK490 := am (blk_drew BK490.out)
   replace BK500 := am (blk_drew BK500.out)
   replace HB := am (below_drew1 HB.out)
   refine start_ (n := 9) (S := fun w' => w'.cell? ⟨gb490, 0, none⟩ = some (.string t486) ∧ w'.cell? ⟨gb490, 1, none⟩ = some (.slice Ao12 t487.length co12)) (ds := []) (bs 9 0) (by kernel_rfl) rfl rfl ⟨ce0 BK490, ce1 BK490⟩ (fun hHeld => ?_); refine with_tabW laws_FnVolForm.tab10 laws_FnVolForm.bits10 (fun HT_ HW_ => ?_)
   generalize w56.drew = w57 at HO_491001 HO499 BK490 BK500 HB hHeld ⊢
   refine pu 0 54 9 1 rfl rfl ?_
   refine pu 3 57 9 9 rfl rfl ?_
   refine ta2 1 55 9 11 rfl rfl hHeld ?_
   refine ta2 4 58 9 27 rfl rfl hHeld ?_
   refine join_ (σ := Value × Value × Nat) 1 (bs 9 255) (fun s_ => [(56, s_.1), (59, s_.2.1), (9, .pointer (some ⟨s_.2.2, 0, none⟩)), (60, .agg #[.string t486, s_.2.1])]) (fun s_ w' => (w'.cell? ⟨gb490, 0, none⟩ = some (.string t486) ∧ w'.cell? ⟨gb490, 1, none⟩ = some (.slice Ao12 t487.length co12)) ∧ (Kd.R (Kd.int .i64) 3 w' w.heap.size (fun k_ => some k_ ≠ (s_.2.1 : Value).ownBlock ∧ some k_ ≠ (.slice Ao12 t487.length co12 : Value).ownBlock) (.slice (some ⟨go29, 0, none⟩) y497.length co49) y501) ∧ (Kd.R (Kd.int .i64) 3 w' w.heap.size (fun k_ => some k_ ≠ (.slice (some ⟨go29, 0, none⟩) y497.length co49 : Value).ownBlock ∧ some k_ ≠ (.slice Ao12 t487.length co12 : Value).ownBlock) s_.2.1 y505) ∧ (Kd.Q (Kd.int .i64) 3 w' w.heap.size (fun k_ => some k_ ≠ (.slice (some ⟨go29, 0, none⟩) y497.length co49 : Value).ownBlock ∧ some k_ ≠ (s_.2.1 : Value).ownBlock) (.slice Ao12 t487.length co12) t487) ∧ (w'.heap[gb490]? = some (.cells #[.string t486, .slice Ao12 t487.length co12] 38 (0, 0))) ∧ (w'.heap[gb500]? = some (.cells #[.string t486, .slice (some ⟨go29, 0, none⟩) y497.length co49] 38 (0, 0))) ∧ (w'.heap[s_.2.2]? = some (.cells #[.string (⟨#[]⟩ : ByteArray), .slice none 0 0] 38 (0, 0))) ∧ (w.heap.size ≤ s_.2.2) ∧ (w.heap.size ≤ s_.2.2) ∧ (gb490 ≠ s_.2.2) ∧ (s_.2.2 ≠ gb490) ∧ (gb500 ≠ s_.2.2) ∧ (s_.2.2 ≠ gb500) ∧ (Below w.heap.size w w')) ?_ ?_
   rotate_left
   · intro hCont
     refine two_ (i := 2) (j := 7) (Ni := some 56) (Nj := some 9) (bs 9 31) (bs 9 155) rfl rfl rfl rfl (two_of HT_.out (by kernel_rfl)) (by decide) (by decide) (fun K hK => ?_) (fun K hK => ?_)
     · skip
       refine Kd.R_lit_step (Kd.int .i64) _ 3 ?hg (N := 56) ?hd (xs := ([] : List Int)) (inner := []) (ok := fun _ => True) (okp := fun _ => True) ?hr ?hp (fun _ hk => hk) trivial (Below.refl _ _) (Nat.le_refl _) (by simp) ?_; (case hd => rfl); (case hg => rfl); (case hr => first | (go_simp; done) | (go_simp; rfl)); (case hp => exact (Reps.none _ _))
       intro v503 w58 ho59 hb hg_ hnew_
       clear hg_ hnew_
       (first | rw [← Ny502.out] at ho59 | (simp only [Int.reduceToNat] at ho59; rw [← Ny502.out] at ho59))
       have HO504 := am (Kd.R_lower (Kd.R_new' (Kd.R_new' ho59 (Kd.Q_lt (by (with_reducible repeat (first | apply Kd.Q_alloc | apply Kd.Q_drewN | apply Kd.Q_drew)); exact HO_491001.out))) (Kd.R_lt (zr HO499))) (below_size (zb HB)))
       replace HO_491001 := am (Kd.Q_elder' (by (with_reducible repeat (first | apply Kd.Q_alloc | apply Kd.Q_drewN | apply Kd.Q_drew)); exact HO_491001.out) (Kd.R_base ho59) hb)
       replace HO499 := am (Kd.R_elder' (zr HO499) (Kd.R_base ho59) hb)
       replace BK490 := am (blk_below (zk BK490) hb)
       replace BK500 := am (blk_below (zk BK500) hb)
       replace HB := am (below_step (zb HB) hb)
       clear hb ho59
       refine hK.out _ _ ⟨ce0 BK490, ce1 BK490⟩ (fun hHeld => ?_)
       clear hK K
       refine norm_ (a' := ?_) ?_ ?_
       rotate_left
       · show Act.put _ (some 56) _ = _
         simp only [Act.put, List.setIfInBounds_toArray, List.set_cons_zero, List.set_cons_succ, i64_w, i32_w]
         rfl
       refine two_ (i := 5) (j := 7) (Ni := some 59) (Nj := some 9) (bs 9 63) (bs 9 159) rfl rfl rfl rfl (two_of HT_.out (by kernel_rfl)) (by decide) (by decide) (fun K hK => ?_) (fun K hK => ?_)
       · skip
         refine Kd.R_append_rows_step (Kd.int .i64) (w0 := w) w.heap.size (by rfl) (.tmp 56) (.tmp 58) 36 3 (.int .i64 0) 8 rfl Try.underlying36 info3 rfl (by decide) (by omega) v503 y502 t487 _ _ _ (fun k_ => some k_ ≠ (.slice Ao12 t487.length co12 : Value).ownBlock ∧ some k_ ≠ (.slice (some ⟨go29, 0, none⟩) y497.length co49 : Value).ownBlock) (fun _ => False) rfl rfl ?aO ?aR (fun _ _ h => h) (fun _ h => h.elim) ?aF ?aB ?aS ?aL ?_
         (case aR => repeat (first | exact (Kd.Q_reads' HO_491001.out).2.2 | (with_reducible refine Kd.C_alloc ?_ _) | (with_reducible refine Kd.C_drewN ?_ _) | (with_reducible refine Kd.C_drew ?_)))
         (case aB => exact (zb HB))
         (case aF => exact (fun k_ hk => ⟨Kd.fresh' (Kd.Q_lt (by (with_reducible repeat (first | apply Kd.Q_alloc | apply Kd.Q_drewN | apply Kd.Q_drew)); exact HO_491001.out)) k_ hk, Kd.fresh' (Kd.R_lt (zr HO499)) k_ hk⟩))
         (case aO => exact (by (with_reducible repeat (first | apply Kd.R_alloc | apply Kd.R_drewN | apply Kd.R_drew)); exact Kd.R_mono HO504.out (fun _ hk => ⟨hk.1.2, hk.2⟩)))
         (case aS => exact (below_size (zb HB)))
         (case aL => have := LMc30.out; omega)
         intro v506 w60 ho hb hg hat
         rw [← Ny505.out] at ho
         replace HO_491001 := am (Kd.Q_after (ok := (fun k_ => some k_ ≠ (.slice (some ⟨go29, 0, none⟩) y497.length co49 : Value).ownBlock)) (by (with_reducible repeat (first | apply Kd.Q_alloc | apply Kd.Q_drewN | apply Kd.Q_drew)); exact Kd.Q_mono HO_491001.out (fun _ hk => ⟨hk.1.2, hk.2⟩)) hg hat)
         replace BK490 := am (blk_grown (zk BK490) hg (Kd.R_ne HO504.out BK490.out (by decide)))
         replace HO499 := am (Kd.R_after (ok := (fun k_ => some k_ ≠ (.slice Ao12 t487.length co12 : Value).ownBlock)) (zr HO499) hg hat)
         replace BK500 := am (blk_grown (zk BK500) hg (Kd.R_ne HO504.out BK500.out (by decide)))
         replace HB := am (hb)
         have HO507 := am (ho)
         clear HO504 ho hb hg hat
         obtain ⟨Ao61, co61, eo61⟩ := Kd.R_slice HO507.out
         (first | subst eo61 | (injection eo61 with f1_ f2_ f3_; have f4_ := f1_.symm; have f5_ := f3_.symm; clear f1_ f2_ f3_; subst f4_; subst f5_))
         refine hK.out _ _ ⟨ce0 BK490, ce1 BK490⟩ (fun hHeld => ?_)
         clear hK K
         refine norm_ (a' := ?_) ?_ ?_
         rotate_left
         · show Act.put _ (some 59) _ = _
           simp only [Act.put, List.setIfInBounds_toArray, List.set_cons_zero, List.set_cons_succ, i64_w, i32_w]
           rfl
         refine pu 6 60 9 127 rfl rfl ?_
         refine oz 7 9 255 rfl rfl (fun K hK => ?_)
         refine box_step ?hg (N := 9) ?hd (cs := #[.string (⟨#[]⟩ : ByteArray), .slice none 0 0]) (t := 38) ?hr ?_; (case hd => rfl); (case hg => rfl); (case hr => first | (go_simp; done) | (go_simp; rfl))
         intro gb508 hg w62 hbox hb
         replace HO_491001 := am (Kd.Q_below (by (with_reducible repeat (first | apply Kd.Q_alloc | apply Kd.Q_drewN | apply Kd.Q_drew)); exact HO_491001.out) hb)
         replace HO499 := am (Kd.R_below (zr HO499) hb)
         replace HO507 := am (Kd.R_below (zr HO507) hb)
         have BK508 := am (hbox)
         have GW508 := am (zn hg (zb HB))
         have GE508 := am (zn hg (zb HB))
         replace HB := am (below_step (zb HB) hb)
         have NB490_508 := am (zx hg (zk BK490))
         have NB508_490 := am (zy hg (zk BK490))
         replace BK490 := am (blk_below (zk BK490) hb)
         have NB500_508 := am (zx hg (zk BK500))
         have NB508_500 := am (zy hg (zk BK500))
         replace BK500 := am (blk_below (zk BK500) hb)
         clear hb hbox hg
         refine hK.out _ _ ⟨ce0 BK490, ce1 BK490⟩ (fun hHeld => ?_)
         clear hK K
         refine norm_ (a' := ?_) ?_ ?_
         rotate_left
         · show Act.put _ (some 9) _ = _
           simp only [Act.put, List.setIfInBounds_toArray, List.set_cons_zero, List.set_cons_succ, i64_w, i32_w]
           rfl
         exact norm_ (by simp only [putAll, Act.put, List.setIfInBounds_toArray, List.set_cons_zero, List.set_cons_succ]) (hCont (v503, .slice Ao61 y505.length co61, gb508) _ ⟨hHeld, (by (with_reducible repeat (first | apply Kd.R_alloc | apply Kd.R_drewN | apply Kd.R_drew)); exact Kd.R_mono HO499.out (fun _ hk => ⟨hk.2, hk.1⟩)), (by (with_reducible repeat (first | apply Kd.R_alloc | apply Kd.R_drewN | apply Kd.R_drew)); exact Kd.R_mono HO507.out (fun _ hk => ⟨hk.2, hk.1⟩)), (by (with_reducible repeat (first | apply Kd.Q_alloc | apply Kd.Q_drewN | apply Kd.Q_drew)); exact HO_491001.out), (zk BK490), (zk BK500), (zk BK508), GW508.out, GE508.out, NB490_508.out, NB508_490.out, NB500_508.out, NB508_500.out, (zb HB)⟩)
       skip
       refine box_step ?hg (N := 9) ?hd (cs := #[.string (⟨#[]⟩ : ByteArray), .slice none 0 0]) (t := 38) ?hr ?_; (case hd => rfl); (case hg => rfl); (case hr => first | (go_simp; done) | (go_simp; rfl))
       intro gb508 hg w60 hbox hb
       replace HO_491001 := am (Kd.Q_below (by (with_reducible repeat (first | apply Kd.Q_alloc | apply Kd.Q_drewN | apply Kd.Q_drew)); exact HO_491001.out) hb)
       replace HO499 := am (Kd.R_below (zr HO499) hb)
       replace HO504 := am (Kd.R_below (zr HO504) hb)
       have BK508 := am (hbox)
       have GW508 := am (zn hg (zb HB))
       have GE508 := am (zn hg (zb HB))
       replace HB := am (below_step (zb HB) hb)
       have NB490_508 := am (zx hg (zk BK490))
       have NB508_490 := am (zy hg (zk BK490))
       replace BK490 := am (blk_below (zk BK490) hb)
       have NB500_508 := am (zx hg (zk BK500))
       have NB508_500 := am (zy hg (zk BK500))
       replace BK500 := am (blk_below (zk BK500) hb)
       clear hb hbox hg
       refine hK.out _ _ ⟨ce0 BK490, ce1 BK490⟩ (fun hHeld => ?_)
       clear hK K
       refine norm_ (a' := ?_) ?_ ?_
       rotate_left
       · show Act.put _ (some 9) _ = _
         simp only [Act.put, List.setIfInBounds_toArray, List.set_cons_zero, List.set_cons_succ, i64_w, i32_w]
         rfl
       refine oz 5 9 191 rfl rfl (fun K hK => ?_)
       refine Kd.R_append_rows_step (Kd.int .i64) (w0 := w) w.heap.size (by rfl) (.tmp 56) (.tmp 58) 36 3 (.int .i64 0) 8 rfl Try.underlying36 info3 rfl (by decide) (by omega) v503 y502 t487 _ _ _ (fun k_ => some k_ ≠ (.slice Ao12 t487.length co12 : Value).ownBlock ∧ some k_ ≠ (.slice (some ⟨go29, 0, none⟩) y497.length co49 : Value).ownBlock) (fun _ => False) rfl rfl ?aO ?aR (fun _ _ h => h) (fun _ h => h.elim) ?aF ?aB ?aS ?aL ?_
       (case aR => repeat (first | exact (Kd.Q_reads' HO_491001.out).2.2 | (with_reducible refine Kd.C_alloc ?_ _) | (with_reducible refine Kd.C_drewN ?_ _) | (with_reducible refine Kd.C_drew ?_)))
       (case aB => exact (zb HB))
       (case aF => exact (fun k_ hk => ⟨Kd.fresh' (Kd.Q_lt (by (with_reducible repeat (first | apply Kd.Q_alloc | apply Kd.Q_drewN | apply Kd.Q_drew)); exact HO_491001.out)) k_ hk, Kd.fresh' (Kd.R_lt (zr HO499)) k_ hk⟩))
       (case aO => exact (by (with_reducible repeat (first | apply Kd.R_alloc | apply Kd.R_drewN | apply Kd.R_drew)); exact Kd.R_mono HO504.out (fun _ hk => ⟨hk.1.2, hk.2⟩)))
       (case aS => exact (below_size (zb HB)))
       (case aL => have := LMc30.out; omega)
       intro v506 w61 ho hb hg hat
       rw [← Ny505.out] at ho
       replace HO_491001 := am (Kd.Q_after (ok := (fun k_ => some k_ ≠ (.slice (some ⟨go29, 0, none⟩) y497.length co49 : Value).ownBlock)) (by (with_reducible repeat (first | apply Kd.Q_alloc | apply Kd.Q_drewN | apply Kd.Q_drew)); exact Kd.Q_mono HO_491001.out (fun _ hk => ⟨hk.1.2, hk.2⟩)) hg hat)
       replace BK490 := am (blk_grown (zk BK490) hg (Kd.R_ne HO504.out BK490.out (by decide)))
       replace HO499 := am (Kd.R_after (ok := (fun k_ => some k_ ≠ (.slice Ao12 t487.length co12 : Value).ownBlock)) (zr HO499) hg hat)
       replace BK500 := am (blk_grown (zk BK500) hg (Kd.R_ne HO504.out BK500.out (by decide)))
       replace BK508 := am (blk_grown (zk BK508) hg (Kd.R_ne HO504.out BK508.out (by decide)))
       replace HB := am (hb)
       have HO507 := am (ho)
       clear HO504 ho hb hg hat
       obtain ⟨Ao62, co62, eo62⟩ := Kd.R_slice HO507.out
       (first | subst eo62 | (injection eo62 with f1_ f2_ f3_; have f4_ := f1_.symm; have f5_ := f3_.symm; clear f1_ f2_ f3_; subst f4_; subst f5_))
       refine hK.out _ _ ⟨ce0 BK490, ce1 BK490⟩ (fun hHeld => ?_)
       clear hK K
       refine norm_ (a' := ?_) ?_ ?_
       rotate_left
       · show Act.put _ (some 59) _ = _
         simp only [Act.put, List.setIfInBounds_toArray, List.set_cons_zero, List.set_cons_succ, i64_w, i32_w]
         rfl
       refine pu 6 60 9 255 rfl rfl ?_
       exact norm_ (by simp only [putAll, Act.put, List.setIfInBounds_toArray, List.set_cons_zero, List.set_cons_succ]) (hCont (v503, .slice Ao62 y505.length co62, gb508) _ ⟨hHeld, (by (with_reducible repeat (first | apply Kd.R_alloc | apply Kd.R_drewN | apply Kd.R_drew)); exact Kd.R_mono HO499.out (fun _ hk => ⟨hk.2, hk.1⟩)), (by (with_reducible repeat (first | apply Kd.R_alloc | apply Kd.R_drewN | apply Kd.R_drew)); exact Kd.R_mono HO507.out (fun _ hk => ⟨hk.2, hk.1⟩)), (by (with_reducible repeat (first | apply Kd.Q_alloc | apply Kd.Q_drewN | apply Kd.Q_drew)); exact HO_491001.out), (zk BK490), (zk BK500), (zk BK508), GW508.out, GE508.out, NB490_508.out, NB508_490.out, NB500_508.out, NB508_500.out, (zb HB)⟩)
     skip
     refine box_step ?hg (N := 9) ?hd (cs := #[.string (⟨#[]⟩ : ByteArray), .slice none 0 0]) (t := 38) ?hr ?_; (case hd => rfl); (case hg => rfl); (case hr => first | (go_simp; done) | (go_simp; rfl))
     intro gb508 hg w58 hbox hb
     replace HO_491001 := am (Kd.Q_below (by (with_reducible repeat (first | apply Kd.Q_alloc | apply Kd.Q_drewN | apply Kd.Q_drew)); exact HO_491001.out) hb)
     replace HO499 := am (Kd.R_below (zr HO499) hb)
     have BK508 := am (hbox)
     have GW508 := am (zn hg (zb HB))
     have GE508 := am (zn hg (zb HB))
     replace HB := am (below_step (zb HB) hb)
     have NB490_508 := am (zx hg (zk BK490))
     have NB508_490 := am (zy hg (zk BK490))
     replace BK490 := am (blk_below (zk BK490) hb)
     have NB500_508 := am (zx hg (zk BK500))
     have NB508_500 := am (zy hg (zk BK500))
     replace BK500 := am (blk_below (zk BK500) hb)
     clear hb hbox hg
     refine hK.out _ _ ⟨ce0 BK490, ce1 BK490⟩ (fun hHeld => ?_)
     clear hK K
     refine norm_ (a' := ?_) ?_ ?_
     rotate_left
     · show Act.put _ (some 9) _ = _
       simp only [Act.put, List.setIfInBounds_toArray, List.set_cons_zero, List.set_cons_succ, i64_w, i32_w]
       rfl
     refine oz 2 9 159 rfl rfl (fun K hK => ?_)
     refine Kd.R_lit_step (Kd.int .i64) _ 3 ?hg (N := 56) ?hd (xs := ([] : List Int)) (inner := []) (ok := fun _ => True) (okp := fun _ => True) ?hr ?hp (fun _ hk => hk) trivial (Below.refl _ _) (Nat.le_refl _) (by simp) ?_; (case hd => rfl); (case hg => rfl); (case hr => first | (go_simp; done) | (go_simp; rfl)); (case hp => exact (Reps.none _ _))
     intro v503 w59 ho60 hb hg_ hnew_
     clear hg_ hnew_
     (first | rw [← Ny502.out] at ho60 | (simp only [Int.reduceToNat] at ho60; rw [← Ny502.out] at ho60))
     have HO504 := am (Kd.R_lower (Kd.R_new' (Kd.R_new' ho60 (Kd.Q_lt (by (with_reducible repeat (first | apply Kd.Q_alloc | apply Kd.Q_drewN | apply Kd.Q_drew)); exact HO_491001.out))) (Kd.R_lt (zr HO499))) (below_size (zb HB)))
     replace HO_491001 := am (Kd.Q_elder' (by (with_reducible repeat (first | apply Kd.Q_alloc | apply Kd.Q_drewN | apply Kd.Q_drew)); exact HO_491001.out) (Kd.R_base ho60) hb)
     replace HO499 := am (Kd.R_elder' (zr HO499) (Kd.R_base ho60) hb)
     replace BK490 := am (blk_below (zk BK490) hb)
     replace BK500 := am (blk_below (zk BK500) hb)
     replace BK508 := am (blk_below (zk BK508) hb)
     replace HB := am (below_step (zb HB) hb)
     clear hb ho60
     refine hK.out _ _ ⟨ce0 BK490, ce1 BK490⟩ (fun hHeld => ?_)
     clear hK K
     refine norm_ (a' := ?_) ?_ ?_
     rotate_left
     · show Act.put _ (some 56) _ = _
       simp only [Act.put, List.setIfInBounds_toArray, List.set_cons_zero, List.set_cons_succ, i64_w, i32_w]
       rfl
     refine oz 5 9 191 rfl rfl (fun K hK => ?_)
     refine Kd.R_append_rows_step (Kd.int .i64) (w0 := w) w.heap.size (by rfl) (.tmp 56) (.tmp 58) 36 3 (.int .i64 0) 8 rfl Try.underlying36 info3 rfl (by decide) (by omega) v503 y502 t487 _ _ _ (fun k_ => some k_ ≠ (.slice Ao12 t487.length co12 : Value).ownBlock ∧ some k_ ≠ (.slice (some ⟨go29, 0, none⟩) y497.length co49 : Value).ownBlock) (fun _ => False) rfl rfl ?aO ?aR (fun _ _ h => h) (fun _ h => h.elim) ?aF ?aB ?aS ?aL ?_
     (case aR => repeat (first | exact (Kd.Q_reads' HO_491001.out).2.2 | (with_reducible refine Kd.C_alloc ?_ _) | (with_reducible refine Kd.C_drewN ?_ _) | (with_reducible refine Kd.C_drew ?_)))
     (case aB => exact (zb HB))
     (case aF => exact (fun k_ hk => ⟨Kd.fresh' (Kd.Q_lt (by (with_reducible repeat (first | apply Kd.Q_alloc | apply Kd.Q_drewN | apply Kd.Q_drew)); exact HO_491001.out)) k_ hk, Kd.fresh' (Kd.R_lt (zr HO499)) k_ hk⟩))
     (case aO => exact (by (with_reducible repeat (first | apply Kd.R_alloc | apply Kd.R_drewN | apply Kd.R_drew)); exact Kd.R_mono HO504.out (fun _ hk => ⟨hk.1.2, hk.2⟩)))
     (case aS => exact (below_size (zb HB)))
     (case aL => have := LMc30.out; omega)
     intro v506 w61 ho hb hg hat
     rw [← Ny505.out] at ho
     replace HO_491001 := am (Kd.Q_after (ok := (fun k_ => some k_ ≠ (.slice (some ⟨go29, 0, none⟩) y497.length co49 : Value).ownBlock)) (by (with_reducible repeat (first | apply Kd.Q_alloc | apply Kd.Q_drewN | apply Kd.Q_drew)); exact Kd.Q_mono HO_491001.out (fun _ hk => ⟨hk.1.2, hk.2⟩)) hg hat)
     replace BK490 := am (blk_grown (zk BK490) hg (Kd.R_ne HO504.out BK490.out (by decide)))
     replace HO499 := am (Kd.R_after (ok := (fun k_ => some k_ ≠ (.slice Ao12 t487.length co12 : Value).ownBlock)) (zr HO499) hg hat)
     replace BK500 := am (blk_grown (zk BK500) hg (Kd.R_ne HO504.out BK500.out (by decide)))
     replace BK508 := am (blk_grown (zk BK508) hg (Kd.R_ne HO504.out BK508.out (by decide)))
     replace HB := am (hb)
     have HO507 := am (ho)
     clear HO504 ho hb hg hat
     obtain ⟨Ao62, co62, eo62⟩ := Kd.R_slice HO507.out
     (first | subst eo62 | (injection eo62 with f1_ f2_ f3_; have f4_ := f1_.symm; have f5_ := f3_.symm; clear f1_ f2_ f3_; subst f4_; subst f5_))
     refine hK.out _ _ ⟨ce0 BK490, ce1 BK490⟩ (fun hHeld => ?_)
     clear hK K
     refine norm_ (a' := ?_) ?_ ?_
     rotate_left
     · show Act.put _ (some 59) _ = _
       simp only [Act.put, List.setIfInBounds_toArray, List.set_cons_zero, List.set_cons_succ, i64_w, i32_w]
       rfl
     refine pu 6 60 9 255 rfl rfl ?_
     exact norm_ (by simp only [putAll, Act.put, List.setIfInBounds_toArray, List.set_cons_zero, List.set_cons_succ]) (hCont (v503, .slice Ao62 y505.length co62, gb508) _ ⟨hHeld, (by (with_reducible repeat (first | apply Kd.R_alloc | apply Kd.R_drewN | apply Kd.R_drew)); exact Kd.R_mono HO499.out (fun _ hk => ⟨hk.2, hk.1⟩)), (by (with_reducible repeat (first | apply Kd.R_alloc | apply Kd.R_drewN | apply Kd.R_drew)); exact Kd.R_mono HO507.out (fun _ hk => ⟨hk.2, hk.1⟩)), (by (with_reducible repeat (first | apply Kd.Q_alloc | apply Kd.Q_drewN | apply Kd.Q_drew)); exact HO_491001.out), (zk BK490), (zk BK500), (zk BK508), GW508.out, GE508.out, NB490_508.out, NB508_490.out, NB500_508.out, NB508_500.out, (zb HB)⟩)
   rintro ⟨v503, v506, gb508⟩ w63 ⟨hS_, h0_, h1_, h2_, h3_, h4_, h5_, h6_, h7_, h8_, h9_, h10_, h11_, h12_⟩
   replace HO499 : Aside0 (Kd.R (Kd.int .i64) 3 w63 w.heap.size (fun k_ => some k_ ≠ (v506 : Value).ownBlock ∧ some k_ ≠ (.slice Ao12 t487.length co12 : Value).ownBlock) (.slice (some ⟨go29, 0, none⟩) y497.length co49) y501) := ⟨h0_⟩
   have HO507 : Aside0 (Kd.R (Kd.int .i64) 3 w63 w.heap.size (fun k_ => some k_ ≠ (.slice (some ⟨go29, 0, none⟩) y497.length co49 : Value).ownBlock ∧ some k_ ≠ (.slice Ao12 t487.length co12 : Value).ownBlock) v506 y505) := ⟨h1_⟩
   replace HO_491001 : Aside0 (Kd.Q (Kd.int .i64) 3 w63 w.heap.size (fun k_ => some k_ ≠ (.slice (some ⟨go29, 0, none⟩) y497.length co49 : Value).ownBlock ∧ some k_ ≠ (v506 : Value).ownBlock) (.slice Ao12 t487.length co12) t487) := ⟨h2_⟩
   replace BK490 : Aside0 (w63.heap[gb490]? = some (.cells #[.string t486, .slice Ao12 t487.length co12] 38 (0, 0))) := ⟨h3_⟩
   replace BK500 : Aside0 (w63.heap[gb500]? = some (.cells #[.string t486, .slice (some ⟨go29, 0, none⟩) y497.length co49] 38 (0, 0))) := ⟨h4_⟩
   have BK508 : Aside0 (w63.heap[gb508]? = some (.cells #[.string (⟨#[]⟩ : ByteArray), .slice none 0 0] 38 (0, 0))) := ⟨h5_⟩
   have GW508 : Aside0 (w.heap.size ≤ gb508) := ⟨h6_⟩
   have GE508 : Aside0 (w.heap.size ≤ gb508) := ⟨h7_⟩
   have NB490_508 : Aside0 (gb490 ≠ gb508) := ⟨h8_⟩
   have NB508_490 : Aside0 (gb508 ≠ gb490) := ⟨h9_⟩
   have NB500_508 : Aside0 (gb500 ≠ gb508) := ⟨h10_⟩
   have NB508_500 : Aside0 (gb508 ≠ gb500) := ⟨h11_⟩
   replace HB : Aside0 (Below w.heap.size w w63) := ⟨h12_⟩
   clear h0_ h1_ h2_ h3_ h4_ h5_ h6_ h7_ h8_ h9_ h10_ h11_ h12_
   have hHeld : w63.cell? ⟨gb490, 0, none⟩ = some (.string t486) ∧ w63.cell? ⟨gb490, 1, none⟩ = some (.slice Ao12 t487.length co12) := hS_
   obtain ⟨Ao64, co64, eo64⟩ := Kd.R_slice HO507.out
   (first | subst eo64 | (injection eo64 with f1_ f2_ f3_; have f4_ := f1_.symm; have f5_ := f3_.symm; clear f1_ f2_ f3_; subst f4_; subst f5_))
   refine norm_ (a' := ?_) ?_ ?_
   rotate_left
   · simp only [putAll, Act.put, List.setIfInBounds_toArray, List.set_cons_zero, List.set_cons_succ]
     rfl
   refine oz 8 9 511 rfl rfl (fun K hK => ?_)
   have hs65 := ce0 BK508
   have hfs65 := bfz BK508 0
   have hns65_0 := NB490_508.out
   have hns65_1 := NB500_508.out
   have hms65_0 := NB508_490.out
   have hms65_1 := NB508_500.out
   have hs66 := ce1 BK508
   have hfs66 := bfz BK508 1
   have hns66_0 := NB490_508.out
   have hns66_1 := NB500_508.out
   have hms66_0 := NB508_490.out
   have hms66_1 := NB508_500.out
   refine skip_ (w1 := ?_) (by rfl) rfl ?_ ?_
   rotate_left
   · go_simp
     rfl
   refine hK.out _ _ ⟨((cell_far (p := ⟨gb508, _, none⟩) NB490_508.out _).trans (((cell_far (p := ⟨gb508, _, none⟩) NB490_508.out _).trans (hHeld.1)))), ((cell_far (p := ⟨gb508, _, none⟩) NB490_508.out _).trans (((cell_far (p := ⟨gb508, _, none⟩) NB490_508.out _).trans (hHeld.2))))⟩ (fun hHeld => ?_)
   clear hK K
   refine done_ (done_of HT_.out (by kernel_rfl)) ?_
   have n0_ : Aside0 (Kd.Q (Kd.int .i64) 3 ((w63.setCell ⟨gb508, 0, none⟩ (.string t486)).setCell ⟨gb508, 1, none⟩ (.slice Ao64 y505.length co64)) w.heap.size (fun k_ => some k_ ≠ (.slice (some ⟨go29, 0, none⟩) y497.length co49 : Value).ownBlock ∧ some k_ ≠ (.slice Ao64 y505.length co64 : Value).ownBlock) (.slice Ao12 t487.length co12) t487) := ⟨by (with_reducible repeat (first | apply Kd.Q_alloc | apply Kd.Q_drewN | apply Kd.Q_drew)); exact Kd.Q_mono (Kd.Q_far (p := ⟨gb508, 1, none⟩) (Kd.Q_far (p := ⟨gb508, 0, none⟩) (Kd.Q_types HO_491001.out BK508.out (by decide)) (fun _ hk => hk.2) (.string t486)) (fun _ hk => hk.2) (.slice Ao64 y505.length co64)) (fun _ hk => ⟨hk.1.1, hk.1.2⟩)⟩
   have n1_ : Aside0 (Kd.R (Kd.int .i64) 3 ((w63.setCell ⟨gb508, 0, none⟩ (.string t486)).setCell ⟨gb508, 1, none⟩ (.slice Ao64 y505.length co64)) w.heap.size (fun k_ => some k_ ≠ (.slice Ao12 t487.length co12 : Value).ownBlock ∧ some k_ ≠ (.slice Ao64 y505.length co64 : Value).ownBlock) (.slice (some ⟨go29, 0, none⟩) y497.length co49) y501) := ⟨by (with_reducible repeat (first | apply Kd.R_alloc | apply Kd.R_drewN | apply Kd.R_drew)); exact Kd.R_mono (Kd.R_far (p := ⟨gb508, 1, none⟩) (Kd.R_far (p := ⟨gb508, 0, none⟩) (Kd.R_types HO499.out BK508.out (by decide)) (fun _ hk => hk.2) (.string t486)) (fun _ hk => hk.2) (.slice Ao64 y505.length co64)) (fun _ hk => ⟨hk.1.2, hk.1.1⟩)⟩
   have n2_ : Aside0 (Kd.R (Kd.int .i64) 3 ((w63.setCell ⟨gb508, 0, none⟩ (.string t486)).setCell ⟨gb508, 1, none⟩ (.slice Ao64 y505.length co64)) w.heap.size (fun k_ => some k_ ≠ (.slice Ao12 t487.length co12 : Value).ownBlock ∧ some k_ ≠ (.slice (some ⟨go29, 0, none⟩) y497.length co49 : Value).ownBlock) (.slice Ao64 y505.length co64) y505) := ⟨by (with_reducible repeat (first | apply Kd.R_alloc | apply Kd.R_drewN | apply Kd.R_drew)); exact Kd.R_mono (Kd.R_far (p := ⟨gb508, 1, none⟩) (Kd.R_far (p := ⟨gb508, 0, none⟩) (Kd.R_types HO507.out BK508.out (by decide)) (fun _ hk => hk.2) (.string t486)) (fun _ hk => hk.2) (.slice Ao64 y505.length co64)) (fun _ hk => ⟨hk.1.2, hk.1.1⟩)⟩
   have n3_ : Aside0 (((w63.setCell ⟨gb508, 0, none⟩ (.string t486)).setCell ⟨gb508, 1, none⟩ (.slice Ao64 y505.length co64)).heap[gb490]? = some (.cells #[.string t486, .slice Ao12 t487.length co12] 38 (0, 0))) := ⟨zk BK490⟩
   have n4_ : Aside0 (((w63.setCell ⟨gb508, 0, none⟩ (.string t486)).setCell ⟨gb508, 1, none⟩ (.slice Ao64 y505.length co64)).heap[gb500]? = some (.cells #[.string t486, .slice (some ⟨go29, 0, none⟩) y497.length co49] 38 (0, 0))) := ⟨zk BK500⟩
   have n5_ : Aside0 (((w63.setCell ⟨gb508, 0, none⟩ (.string t486)).setCell ⟨gb508, 1, none⟩ (.slice Ao64 y505.length co64)).heap[gb508]? = some (.cells #[.string t486, .slice Ao64 y505.length co64] 38 (0, 0))) := ⟨zp BK508⟩
   have n6_ : Aside0 (Below w.heap.size w ((w63.setCell ⟨gb508, 0, none⟩ (.string t486)).setCell ⟨gb508, 1, none⟩ (.slice Ao64 y505.length co64))) := ⟨zb HB⟩
   (try clear HO_491001)
   (try clear HO499)
   (try clear HO507)
   (try clear BK490)
   (try clear BK500)
   (try clear BK508)
   (try clear HB)
   generalize ((w63.setCell ⟨gb508, 0, none⟩ (.string t486)).setCell ⟨gb508, 1, none⟩ (.slice Ao64 y505.length co64)) = w67 at n0_ n1_ n2_ n3_ n4_ n5_ n6_ ⊢
   have HO_491001 := n0_
   have HO499 := n1_
   have HO507 := n2_
   have BK490 := n3_
   have BK500 := n4_
   have BK508 := n5_
   have HB := n6_
   clear n0_ n1_ n2_ n3_ n4_ n5_ n6_
   have hnb68 := NB508_490.out
   have hnc68 := NB490_508.out
   have hnb69 := NB508_500.out
   have hnc69 := NB500_508.out
   have hcz70_0 := ce0 BK508
   have hcz70_1 := ce1 BK508
   have hfz70_0 := bfz BK508 0
   have hfz70_1 := bfz BK508 1
   have p32 : 0 ≤ ((ji26) : Int) := of_decide_eq_true zl
   have q32 : ((ji26) : Int) < ((y505.length : Int) : Int) := of_decide_eq_true zl
   obtain ⟨go32, co32, eo32, gb32, gl32, cl32, HG32⟩ := Kd.R_form HO507.out (by omega)
   (first | cases eo32 | (injection eo32 with ea_ en_ ec_; (first | subst ea_ | (injection ea_ with ea_; subst ea_)); subst ec_; clear en_))
   have GB32 := am gb32
   have GG32 := am HG32
   clear gb32 gl32 HG32
   obtain ⟨hx32_0, hf32_0⟩ := Kd.R_celln 0 HO507.out ((ji26) : Int) p32 q32
   replace p32 := eq_true p32
   replace q32 := eq_true q32
   obtain ⟨hy71_, hz71_⟩ := Kd.R_celln 0 HO507.out ((ji26) : Int) (of_decide_eq_true zl) (of_decide_eq_true zl)
   have HP71 := Kd.R_putg HO507.out ((ji26) : Int) 9
   try go_wp2_with (first | ((with_reducible refine gate_store (t := 3) (p := 64) rfl ?_); refine store_event (t := 3) (p := 64) (v := ?vo_w72) (w1 := (w67.setCell ⟨go32, ((ji26) : Int).toNat, none⟩ (.int .i64 9))) ?hg ?ho ?hn ?hr ?_; (case ho => rfl); (case hg => rfl); (case hn => rfl); (case hr => first | (go_simp; done) | (go_simp; rfl)); intro w72 hw; have hg : w67.grownBy w72 (some go32) := (by rw [hw]; exact HP71.2); have hp_ : Kd.R (Kd.int .i64) 3 w72 w.heap.size (fun k_ => some k_ ≠ (.slice Ao12 t487.length co12 : Value).ownBlock ∧ some k_ ≠ (.slice (some ⟨go29, 0, none⟩) y497.length co49 : Value).ownBlock) (.slice (some ⟨go32, 0, none⟩) y505.length co64) y509 := (by rw [hw, Ny509.out]; exact HP71.1); clear HP71; replace HO_491001 := am (Kd.Q_after (v := (.slice (some ⟨go32, 0, none⟩) y505.length co64)) (v1 := (.slice (some ⟨go32, 0, none⟩) y505.length co64)) (ok := (fun k_ => some k_ ≠ (.slice (some ⟨go29, 0, none⟩) y497.length co49 : Value).ownBlock)) (by (with_reducible repeat (first | apply Kd.Q_alloc | apply Kd.Q_drewN | apply Kd.Q_drew)); exact HO_491001.out) hg (.inl rfl)); replace BK490 := am (blk_grown (zk BK490) hg (Kd.R_ne HO507.out BK490.out (by decide))); replace HO499 := am (Kd.R_after (v := (.slice (some ⟨go32, 0, none⟩) y505.length co64)) (v1 := (.slice (some ⟨go32, 0, none⟩) y505.length co64)) (ok := (fun k_ => some k_ ≠ (.slice Ao12 t487.length co12 : Value).ownBlock)) (zr HO499) hg (.inl rfl)); replace BK500 := am (blk_grown (zk BK500) hg (Kd.R_ne HO507.out BK500.out (by decide))); replace BK508 := am (blk_grown (zk BK508) hg (Kd.R_ne HO507.out BK508.out (by decide))); replace HO507 := am (hp_); replace HB := am ((by rw [hw]; exact below_set (HB.out) GB32.out : Below w.heap.size w w72)); clear hg hw hp_; have hcz73_0 := ce0 BK500; have hcz73_1 := ce1 BK500; have hfz73_0 := bfz BK500 0; have hfz73_1 := bfz BK500 1) | ((with_reducible refine gate_callee (f := 20) rfl ?_); refine goesL_ (some 66) rfl rfl Try.func20 (by kernel_rfl) rfl #[.agg #[.string t486, .slice (some ⟨go29, 0, none⟩) y501.length co49]] rfl (by (try simp only [List.map_toArray, List.map_cons, List.map_nil]); first | done | (rw [show y501.length = y497.length from (Kd.R_reads' HO499.out).1.symm] <;> rfl) | rfl | (simp only [List.length_drop, List.length_take]; rfl)) ?_; (with_reducible refine (impl_VolOk.calls kj7 t486 _ _ y501 true _ ?side1 ?side2 A33.out).mono ?_); (case side1 => exact zc (Kd.R_reads' HO499.out).2.2); (case side2 => rw [show y501.length = y497.length from (Kd.R_reads' HO499.out).1.symm]; exact (Kd.R_reads' HO499.out).2.1); rintro e w74 ⟨rfl, hb⟩; refine ⟨_, rfl, ?_⟩; replace HO_491001 := am (Kd.Q_below (by (with_reducible repeat (first | apply Kd.Q_alloc | apply Kd.Q_drewN | apply Kd.Q_drew)); exact HO_491001.out) hb); replace HO499 := am (Kd.R_below (zr HO499) hb); replace HO507 := am (Kd.R_below (zr HO507) hb); replace BK490 := am (blk_below (zk BK490) hb); replace BK500 := am (blk_below (zk BK500) hb); replace BK508 := am (blk_below (zk BK508) hb); replace HB := am (below_step (zb HB) hb); (try clear hb); (try clear hb2); (try clear hk); (try clear hi); have hcz75_0 := ce0 BK508; have hcz75_1 := ce1 BK508; have hfz75_0 := bfz BK508 0; have hfz75_1 := bfz BK508 1) | (go_at_call 20; refine calls_of_args (args' := #[.agg #[.string t486, .slice (some ⟨go32, 0, none⟩) y509.length co64]]) (by first | (rw [show y509.length = y505.length from (Kd.R_reads' HO507.out).1.symm] <;> rfl) | rfl) ?_; (with_reducible refine (impl_VolOk.calls kj7 t486 _ _ y509 false _ ?side1 ?side2 A35.out).mono ?_); (case side1 => exact zc (Kd.R_reads' HO507.out).2.2); (case side2 => rw [show y509.length = y505.length from (Kd.R_reads' HO507.out).1.symm]; exact (Kd.R_reads' HO507.out).2.1); rintro e w76 ⟨rfl, hb⟩; replace HO_491001 := am (Kd.Q_below (by (with_reducible repeat (first | apply Kd.Q_alloc | apply Kd.Q_drewN | apply Kd.Q_drew)); exact HO_491001.out) hb); replace HO499 := am (Kd.R_below (zr HO499) hb); replace HO507 := am (Kd.R_below (zr HO507) hb); replace BK490 := am (blk_below (zk BK490) hb); replace BK500 := am (blk_below (zk BK500) hb); replace BK508 := am (blk_below (zk BK508) hb); replace HB := am (below_step (zb HB) hb); (try clear hb); (try clear hb2); (try clear hk); (try clear hi); have hcz77_0 := ce0 BK490; have hcz77_1 := ce1 BK490; have hfz77_0 := bfz BK490 0; have hfz77_1 := bfz BK490 1) | (go_at_call 20; (with_reducible refine (impl_VolOk.calls kj7 (⟨#[69]⟩ : ByteArray) _ _ t487 false _ ?side1 ?side2 A39.out).mono ?_); (case side1 => exact zc (Kd.Q_reads' HO_491001.out).2.2); (case side2 => exact (Kd.Q_reads' HO_491001.out).2.1); rintro e w80 ⟨rfl, hb⟩; replace HO_491001 := am (Kd.Q_below (by (with_reducible repeat (first | apply Kd.Q_alloc | apply Kd.Q_drewN | apply Kd.Q_drew)); exact HO_491001.out) hb); replace HO499 := am (Kd.R_below (zr HO499) hb); replace HO507 := am (Kd.R_below (zr HO507) hb); replace BK490 := am (blk_below (zk BK490) hb); replace BK500 := am (blk_below (zk BK500) hb); replace BK508 := am (blk_below (zk BK508) hb); replace HB := am (below_step (zb HB) hb); (try clear hb); (try clear hb2); (try clear hk); (try clear hi); have hcz81_0 := ce0 BK490; have hcz81_1 := ce1 BK490; have hfz81_0 := bfz BK490 0; have hfz81_1 := bfz BK490 1) | (go_at_call 20; (refine (impl_VolOk.calls kj7 t486 _ _ ([] : List Int) false _ ?side1 ?side2 A37.out).mono ?_); (case side1 => exact Kd.C_nil _ _); (case side2 => exact Nat.le_refl _); rintro e w78 ⟨rfl, hb⟩; replace HO_491001 := am (Kd.Q_below (by (with_reducible repeat (first | apply Kd.Q_alloc | apply Kd.Q_drewN | apply Kd.Q_drew)); exact HO_491001.out) hb); replace HO499 := am (Kd.R_below (zr HO499) hb); replace HO507 := am (Kd.R_below (zr HO507) hb); replace BK490 := am (blk_below (zk BK490) hb); replace BK500 := am (blk_below (zk BK500) hb); replace BK508 := am (blk_below (zk BK508) hb); replace HB := am (below_step (zb HB) hb); (try clear hb); (try clear hb2); (try clear hk); (try clear hi); have hcz79_0 := ce0 BK490; have hcz79_1 := ce1 BK490; have hfz79_0 := bfz BK490 0; have hfz79_1 := bfz BK490 1))
   go_ret
   exact ⟨by first | rfl | (simp [errW_none, errW_some] <;> rfl) | (simp only [← hji26]; first | rfl | (simp [errW_none, errW_some] <;> rfl)) | (simp [*, errW_none, errW_some] <;> rfl), (zb HB)⟩
/-- THE ONE PURE STATEMENT of laws_FnVolForm: yours. -/
def laws_FnVolForm.Pure : Prop := ∀ (l0 : List Int) (l1 : List Int), l0.length ≤ maxLen → l0.length * 1 ≤ 140737488351232 → (∀ x ∈ l0, (Lit.int .u8 x).wf = true) → l1.length ≤ maxLen → l1.length * 1 ≤ 140737488351232 → (∀ x ∈ l1, (Lit.int .u8 x).wf = true) → ∃ k, laws_FnVolForm.f k l0 l1 = some true
theorem laws_FnVolForm.walk (P : laws_FnVolForm.Pure) (a0 : Option Addr) (len0 cap0 : Nat) (z0 : List Int) (a1 : Option Addr) (len1 cap1 : Nat) (z1 : List Int) (w : World) (w0 : (a0 = none ∧ len0 = 0 ∧ cap0 = 0 ∧ z0 = []) ∨ ∃ x, a0 = some x ∧ len0 ≤ cap0 ∧ cap0 ≤ maxLen ∧ z0.length = cap0 ∧ (∀ i, i < z0.length → w.cell? (x.add i) = some (.int .u8 (z0.getD i 0))) ∧ ∀ n ∈ z0, (Lit.int .u8 n).wf = true) (y0 : len0 * 1 ≤ 140737488351232) (w1 : (a1 = none ∧ len1 = 0 ∧ cap1 = 0 ∧ z1 = []) ∨ ∃ x, a1 = some x ∧ len1 ≤ cap1 ∧ cap1 ≤ maxLen ∧ z1.length = cap1 ∧ (∀ i, i < z1.length → w.cell? (x.add i) = some (.int .u8 (z1.getD i 0))) ∧ ∀ n ∈ z1, (Lit.int .u8 n).wf = true) (y1 : len1 * 1 ≤ 140737488351232) :
 Calls Try.prog 4 #[.slice a0 len0 cap0, .slice a1 len1 cap1] w fun e w' => e = .returned (.bool true) ∧ Below w.heap.size w w' := by
 obtain ⟨l0, rfl, hr0, hm0, hw0, hc0⟩ := ReadsInt.ofRowC w0
 obtain ⟨l1, rfl, hr1, hm1, hw1, hc1⟩ := ReadsInt.ofRowC w1
 obtain ⟨k, h⟩ := P l0 l1 hm0 y0 hw0 hm1 y1 hw1
 refine (laws_FnVolForm.calls k _ _ l0 _ _ l1 true w (Kd.C_of_reads (d := (0 : Int)) (h1 := fun _ => rfl) hr0) hc0 (Kd.C_of_reads (d := (0 : Int)) (h1 := fun _ => rfl) hr1) hc1 h rfl).mono ?_
 rintro e w' ⟨rfl, hd⟩
 exact ⟨rfl, hd⟩
end Go.Proofs.Ytooamacekmjpaaa.PFnVolForm
