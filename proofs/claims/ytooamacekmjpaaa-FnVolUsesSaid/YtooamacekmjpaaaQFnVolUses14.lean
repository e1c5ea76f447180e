/- The walk: each function that the law comes to as a plain Lean function, and a proof that the Go code answers so. Written by this session's program over the kit's printer. -/
import Derived.Test.YtooamacekmjpaaaZ
import Derived.Test.YtooamacekmjpaaaQFnVolUses0
import Derived.Test.YtooamacekmjpaaaQFnVolUses1
import Derived.Test.YtooamacekmjpaaaQFnVolUses12
import Derived.Test.YtooamacekmjpaaaQFnVolUses13
namespace Go.Proofs.Ytooamacekmjpaaa.PFnVolUses
open Go.RowKit Go.Proofs.YtooamacekmjpaaaW.PrintWords Go.Proofs.YtooamacekmjpaaaW.PrintLast Go.Proofs.YtooamacekmjpaaaW.PrintMore
attribute [local go_sem] max2_int min2_int max_two min_two max_three min_three max_four min_four   -- for this text's walks alone
set_option linter.unusedVariables false
set_option linter.unusedSimpArgs false
/-! ### laws_FnVolUses: function 8 -/
mutual
def laws_FnVolUses.j0 : Nat → Int → Int → Bool → ByteArray → List Int → Option (Bool)
 | 0, _, _, _, _, _ => none
 | k + 1, x4, x5, x29, x521000, x521001 => if x29 = true then ((spec_VolUses.f k x521000 x521001 x4).bind fun t524 => (some (x5 == t524))) else (laws_FnVolUses.l0 k x5 0 1 x521000 x521001)
def laws_FnVolUses.l0 : Nat → Int → Int → Int → ByteArray → List Int → Option (Bool)
 | 0, _, _, _, _, _ => none
 | k + 1, x5, x6, x7, x521000, x521001 => if x7 ≤ 8 then ((impl_VolUses.f k x521000 x521001 x7).bind fun t525 => (laws_FnVolUses.l0 k x5 (wrap64 (x6 + t525)) (wrap64 (x7 + 1)) x521000 x521001)) else (laws_FnVolUses.l1 k x5 x6 0 x521000 x521001)
def laws_FnVolUses.l1 : Nat → Int → Int → Int → ByteArray → List Int → Option (Bool)
 | 0, _, _, _, _, _ => none
 | k + 1, x5, x6, x8, x521000, x521001 => if x8 < (x521001.length : Int) then (if 0 ≤ x8 then (if (rd x521001 x8) = 0 then (laws_FnVolUses.l1 k x5 (wrap64 (x6 + 1)) (wrap64 (x8 + 1)) x521000 x521001) else (laws_FnVolUses.l1 k x5 x6 (wrap64 (x8 + 1)) x521000 x521001)) else (none)) else (if x6 = (x521001.length : Int) then (if x5 ≥ 0 then ((impl_VolUses.f k x521000 x521001 0).bind fun t527 => (some (t527 == 0))) else (some false)) else (some false))
end
def laws_FnVolUses.f (k : Nat) (l0 : List Int) : Option (Bool) := if (l0.length : Int) > 1048576 then (some true) else ((spec_DrawVolUses.f k l0).bind fun bt515 => ((impl_VolUses.f k bt515.1 bt515.2.1 bt515.2.2).bind fun t521 => ((spec_VolUses.f k bt515.1 bt515.2.1 bt515.2.2).bind fun t522 => (if t521 = t522 then ((spec_VolOk.f k bt515.1 bt515.2.1).bind fun t523 => (laws_FnVolUses.j0 k bt515.2.2 t521 (!t523) bt515.1 bt515.2.1)) else (laws_FnVolUses.j0 k bt515.2.2 t521 true bt515.1 bt515.2.1)))))
theorem laws_FnVolUses.mono_l : ∀ k, (∀ y0 y1 y2 y3 y4, LeO (laws_FnVolUses.j0 k y0 y1 y2 y3 y4) (laws_FnVolUses.j0 (k + 1) y0 y1 y2 y3 y4)) ∧ (∀ y0 y1 y2 y3 y4, LeO (laws_FnVolUses.l0 k y0 y1 y2 y3 y4) (laws_FnVolUses.l0 (k + 1) y0 y1 y2 y3 y4)) ∧ (∀ y0 y1 y2 y3 y4, LeO (laws_FnVolUses.l1 k y0 y1 y2 y3 y4) (laws_FnVolUses.l1 (k + 1) y0 y1 y2 y3 y4))
 | 0 => ⟨fun _ _ _ _ _ r h => by simp [laws_FnVolUses.j0] at h, fun _ _ _ _ _ r h => by simp [laws_FnVolUses.l0] at h, fun _ _ _ _ _ r h => by simp [laws_FnVolUses.l1] at h⟩
 | k + 1 => by
  obtain ⟨ih0, ih1, ih2⟩ := laws_FnVolUses.mono_l k
  refine ⟨?_, ?_, ?_⟩
  · intro y0 y1 y2 y3 y4
    unfold laws_FnVolUses.j0
    repeat' first
    | (with_reducible exact ih0 _ _ _ _ _)
    | (with_reducible exact ih1 _ _ _ _ _)
    | (with_reducible exact ih2 _ _ _ _ _)
    | (with_reducible exact impl_VolUses.mono _ _ _ _)
    | (with_reducible exact spec_DrawVolUses.mono _ _)
    | (with_reducible exact spec_VolOk.mono _ _ _)
    | (with_reducible exact spec_VolUses.mono _ _ _ _)
    | (with_reducible exact LeO.refl _)
    | (with_reducible exact LeO.none _)
    | (with_reducible refine LeO.ite ?_ ?_)
    | (with_reducible refine LeO.bind ?_ (fun _ => ?_))
    | exact ih0 _ _ _ _ _
    | exact ih1 _ _ _ _ _
    | exact ih2 _ _ _ _ _
    | exact impl_VolUses.mono _ _ _ _
    | exact spec_DrawVolUses.mono _ _
    | exact spec_VolOk.mono _ _ _
    | exact spec_VolUses.mono _ _ _ _
    | exact LeO.none _
    | refine LeO.ite ?_ ?_
    | refine LeO.bind ?_ (fun _ => ?_)
  · intro y0 y1 y2 y3 y4
    unfold laws_FnVolUses.l0
    repeat' first
    | (with_reducible exact ih0 _ _ _ _ _)
    | (with_reducible exact ih1 _ _ _ _ _)
    | (with_reducible exact ih2 _ _ _ _ _)
    | (with_reducible exact impl_VolUses.mono _ _ _ _)
    | (with_reducible exact spec_DrawVolUses.mono _ _)
    | (with_reducible exact spec_VolOk.mono _ _ _)
    | (with_reducible exact spec_VolUses.mono _ _ _ _)
    | (with_reducible exact LeO.refl _)
    | (with_reducible exact LeO.none _)
    | (with_reducible refine LeO.ite ?_ ?_)
    | (with_reducible refine LeO.bind ?_ (fun _ => ?_))
    | exact ih0 _ _ _ _ _
    | exact ih1 _ _ _ _ _
    | exact ih2 _ _ _ _ _
    | exact impl_VolUses.mono _ _ _ _
    | exact spec_DrawVolUses.mono _ _
    | exact spec_VolOk.mono _ _ _
    | exact spec_VolUses.mono _ _ _ _
    | exact LeO.none _
    | refine LeO.ite ?_ ?_
    | refine LeO.bind ?_ (fun _ => ?_)
  intro y0 y1 y2 y3 y4
  unfold laws_FnVolUses.l1
  repeat' first
  | (with_reducible exact ih0 _ _ _ _ _)
  | (with_reducible exact ih1 _ _ _ _ _)
  | (with_reducible exact ih2 _ _ _ _ _)
  | (with_reducible exact impl_VolUses.mono _ _ _ _)
  | (with_reducible exact spec_DrawVolUses.mono _ _)
  | (with_reducible exact spec_VolOk.mono _ _ _)
  | (with_reducible exact spec_VolUses.mono _ _ _ _)
  | (with_reducible exact LeO.refl _)
  | (with_reducible exact LeO.none _)
  | (with_reducible refine LeO.ite ?_ ?_)
  | (with_reducible refine LeO.bind ?_ (fun _ => ?_))
  | exact ih0 _ _ _ _ _
  | exact ih1 _ _ _ _ _
  | exact ih2 _ _ _ _ _
  | exact impl_VolUses.mono _ _ _ _
  | exact spec_DrawVolUses.mono _ _
  | exact spec_VolOk.mono _ _ _
  | exact spec_VolUses.mono _ _ _ _
  | exact LeO.none _
  | refine LeO.ite ?_ ?_
  | refine LeO.bind ?_ (fun _ => ?_)
theorem laws_FnVolUses.mono : ∀ a0 k, LeO (laws_FnVolUses.f k a0) (laws_FnVolUses.f (k + 1) a0) := by
 intro a0 k
 obtain ⟨ih0, ih1, ih2⟩ := laws_FnVolUses.mono_l k
 unfold laws_FnVolUses.f
 repeat' first
  | (with_reducible exact ih0 _ _ _ _ _)
  | (with_reducible exact ih1 _ _ _ _ _)
  | (with_reducible exact ih2 _ _ _ _ _)
  | (with_reducible exact impl_VolUses.mono _ _ _ _)
  | (with_reducible exact spec_DrawVolUses.mono _ _)
  | (with_reducible exact spec_VolOk.mono _ _ _)
  | (with_reducible exact spec_VolUses.mono _ _ _ _)
  | (with_reducible exact LeO.refl _)
  | (with_reducible exact LeO.none _)
  | (with_reducible refine LeO.ite ?_ ?_)
  | (with_reducible refine LeO.bind ?_ (fun _ => ?_))
  | exact ih0 _ _ _ _ _
  | exact ih1 _ _ _ _ _
  | exact ih2 _ _ _ _ _
  | exact impl_VolUses.mono _ _ _ _
  | exact spec_DrawVolUses.mono _ _
  | exact spec_VolOk.mono _ _ _
  | exact spec_VolUses.mono _ _ _ _
  | exact LeO.none _
  | refine LeO.ite ?_ ?_
  | refine LeO.bind ?_ (fun _ => ?_)
set_option maxHeartbeats 8000000 in
set_option maxRecDepth 100000 in
theorem laws_FnVolUses.calls (k : Nat) (A0 : Option Addr) (c0 : Nat) (l0 : List Int) (r : Bool) (w : World) (hr0 : Kd.C (Kd.int .u8) w A0 l0.length l0) (hc0 : l0.length ≤ c0) (h : laws_FnVolUses.f k l0 = some r) (hr_ : r = true) :
 Calls Try.prog 8 #[.slice A0 l0.length c0] w fun e w' => e = .returned (.bool r) ∧ Below w.heap.size w w' := by
 have hu38 := Try.underlying38
 have HR0 := am hr0
 have HC0 := am hc0
 clear hr0 hc0
 have HB := am (Below.refl w.heap.size w)
 have H : (if (l0.length : Int) > 1048576 then (some true) else ((spec_DrawVolUses.f k l0).bind fun bt515 => ((impl_VolUses.f k bt515.1 bt515.2.1 bt515.2.2).bind fun t521 => ((spec_VolUses.f k bt515.1 bt515.2.1 bt515.2.2).bind fun t522 => (if t521 = t522 then ((spec_VolOk.f k bt515.1 bt515.2.1).bind fun t523 => (laws_FnVolUses.j0 k bt515.2.2 t521 (!t523) bt515.1 bt515.2.1)) else (laws_FnVolUses.j0 k bt515.2.2 t521 true bt515.1 bt515.2.1)))))) = some r := h
 clear h
 by_cases c2 : (l0.length : Int) > 1048576
 · rw [if_pos c2] at H
   have c2b0 : decide (1048576 < (l0.length : Int)) = true := decide_eq_true c2
   have c2b1 : decide (1048576 < l0.length) = true := decide_eq_true (by omega)
   clear c2
   obtain rfl := Option.some.inj H
   go_enter Try.func8, Try.ntmps8
   go_wp2
   go_ret
   exact ⟨zv, (zb HB)⟩
 rw [if_neg c2] at H
 have c2b0 : decide (1048576 < (l0.length : Int)) = false := decide_eq_false c2
 have c2b1 : decide (1048576 < l0.length) = false := decide_eq_false (by omega)
 clear c2
 replace H := obs H
 obtain ⟨⟨t515, t516, t519⟩, A30, H⟩ := H
 replace H : ((impl_VolUses.f k t515 t516 t519).bind fun t521 => ((spec_VolUses.f k t515 t516 t519).bind fun t522 => (if t521 = t522 then ((spec_VolOk.f k t515 t516).bind fun t523 => (laws_FnVolUses.j0 k t519 t521 (!t523) t515 t516)) else (laws_FnVolUses.j0 k t519 t521 true t515 t516)))) = some r := H
 have A3 := am A30
 clear A30
 replace H := obs H
 obtain ⟨t521, A40, H⟩ := H
 replace H : ((spec_VolUses.f k t515 t516 t519).bind fun t522 => (if t521 = t522 then ((spec_VolOk.f k t515 t516).bind fun t523 => (laws_FnVolUses.j0 k t519 t521 (!t523) t515 t516)) else (laws_FnVolUses.j0 k t519 t521 true t515 t516))) = some r := H
 have A4 := am A40
 clear A40
 have HC5 := am H
 clear H
 go_enter Try.func8, Try.ntmps8
 go_upto_region 5 with (first | ((with_reducible refine gate_callee (f := 26) rfl ?_); refine gl Try.func26 14 #[.slice A0 l0.length c0] rfl rfl rfl ?_; (with_reducible refine (spec_DrawVolUses.calls k _ _ l0 t515 t516 t519 _ ?side1 ?side2 A3.out).mono ?_); (case side1 => repeat (first | exact HR0.out | (with_reducible refine Kd.C_alloc ?_ _) | (with_reducible refine Kd.C_drewN ?_ _) | (with_reducible refine Kd.C_drew ?_))); (case side2 => exact HC0.out); rintro e w6 ⟨v517, rfl, ho0, hb⟩; refine ⟨_, rfl, ?_⟩; have HO518 := am (Kd.Q_lower ho0 (below_size (zb HB))); replace HB := am (below_step (zb HB) hb); (try clear hb); (try clear hb2); (try clear hk); (try clear hi); (try clear ho0)) | ((with_reducible refine gate_dst (N := 3) rfl ?_); refine bx 38 #[.string (⟨#[]⟩ : ByteArray), .slice none 0 0] ?_; intro gb520 hg w7 hbox hb; replace HO518 := am (Kd.Q_below (by (with_reducible repeat (first | apply Kd.Q_alloc | apply Kd.Q_drewN | apply Kd.Q_drew)); exact HO518.out) hb); have BK520 := am (hbox); have GW520 := am (zn hg (zb HB)); have GE520 := am (zn hg (zb HB)); replace HB := am (below_step (zb HB) hb); clear hb hbox hg; have hcz8_0 := ce0 BK520; have hcz8_1 := ce1 BK520; have hfz8_0 := bfz BK520 0; have hfz8_1 := bfz BK520 1; obtain ⟨Ao9, co9, eo9, _⟩ := Kd.Q_slice HO518.out; subst eo9) | ((with_reducible refine gate_callee (f := 27) rfl ?_); refine gl Try.func27 19 #[.agg #[.string t515, .slice Ao9 t516.length co9], .int .i64 t519] rfl rfl rfl ?_; (with_reducible refine (impl_VolUses.calls k t515 _ _ t516 t519 t521 _ ?side1 ?side2 A4.out).mono ?_); (case side1 => refine (Kd.Q_reads' (e := 3) (base := w.heap.size) (ok := fun k_ => True) (n := t516.length) (c := co9) ?_).2.2; exact (by (with_reducible repeat (first | apply Kd.Q_alloc | apply Kd.Q_drewN | apply Kd.Q_drew)); exact (Kd.Q_mono (Kd.Q_far (p := ⟨gb520, 1, none⟩) (Kd.Q_far (p := ⟨gb520, 0, none⟩) (Kd.Q_types HO518.out BK520.out (by decide)) (fun _ hk => hk.2) (.string t515)) (fun _ hk => hk.2) (.slice Ao9 t516.length co9)) (fun _ h_ => h_.1)))); (case side2 => exact (Kd.Q_reads' HO518.out).2.1); rintro e w10 ⟨rfl, hb⟩; refine ⟨_, rfl, ?_⟩; replace HO518 := am (Kd.Q_below (by (with_reducible repeat (first | apply Kd.Q_alloc | apply Kd.Q_drewN | apply Kd.Q_drew)); exact (Kd.Q_mono (Kd.Q_far (p := ⟨gb520, 1, none⟩) (Kd.Q_far (p := ⟨gb520, 0, none⟩) (Kd.Q_types HO518.out BK520.out (by decide)) (fun _ hk => hk.2) (.string t515)) (fun _ hk => hk.2) (.slice Ao9 t516.length co9)) (fun _ h_ => h_.1))) hb); replace BK520 := am (blk_below (g := gb520) (o := .cells #[.string t515, .slice Ao9 t516.length co9] 38 (0, 0)) (zp BK520) hb); replace HB := am (below_step (zb HB) hb); (try clear hb); (try clear hb2); (try clear hk); (try clear hi)))
 (try simp only [Act.put, List.setIfInBounds_toArray, List.set_cons_zero, List.set_cons_succ])
 go_cut [29] (fun v29 wc => ∃ (kq : Nat) (x29_4 : Bool), v29 = .bool x29_4 ∧ Aside0 (laws_FnVolUses.j0 kq t519 t521 x29_4 t515 t516 = some r) ∧ Aside0 (kq ≤ k) ∧ Aside0 (Kd.Q (Kd.int .i64) 3 wc w.heap.size (fun _ => True) (.slice Ao9 t516.length co9) t516) ∧ Aside0 (wc.heap[gb520]? = some (.cells #[.string t515, (.slice Ao9 t516.length co9)] 38 (0, 0))) ∧ Aside0 (Below w.heap.size w wc))
 case first =>
  have H := HC5.out
  clear HC5
  replace H := obs H
  obtain ⟨t522, A110, H⟩ := H
  replace H : (if t521 = t522 then ((spec_VolOk.f k t515 t516).bind fun t523 => (laws_FnVolUses.j0 k t519 t521 (!t523) t515 t516)) else (laws_FnVolUses.j0 k t519 t521 true t515 t516)) = some r := H
  have A11 := am A110
  clear A110
  by_cases c12 : t521 = t522
  rotate_left
  · rw [if_neg c12] at H
    have c12b0 : (t521 == t522) = false := beq_eq_false_iff_ne.mpr c12
    have c12b1 : (t521 != t522) = true := bne_iff_ne.mpr c12
    (first | rw [c12b0] | (simp only [i64_w, i32_w]; rw [c12b0]) | skip)
    have H' := am H
    clear H
    have hcz18_0 := ce0 BK520
    have hcz18_1 := ce1 BK520
    have hfz18_0 := bfz BK520 0
    have hfz18_1 := bfz BK520 1
    go_wp2_with (first | ((with_reducible refine gate_callee (f := 28) rfl ?_); refine gl Try.func28 23 #[.agg #[.string t515, .slice Ao9 t516.length co9], .int .i64 t519] rfl rfl rfl ?_; (with_reducible refine (spec_VolUses.calls k t515 _ _ t516 t519 t522 _ ?side1 ?side2 A11.out).mono ?_); (case side1 => exact zc (Kd.Q_reads' HO518.out).2.2); (case side2 => exact (Kd.Q_reads' HO518.out).2.1); rintro e w19 ⟨rfl, hb⟩; refine ⟨_, rfl, ?_⟩; replace HO518 := am (Kd.Q_below (by (with_reducible repeat (first | apply Kd.Q_alloc | apply Kd.Q_drewN | apply Kd.Q_drew)); exact HO518.out) hb); replace BK520 := am (blk_below (zk BK520) hb); replace HB := am (below_step (zb HB) hb); (try clear hb); (try clear hb2); (try clear hk); (try clear hi)))
    go_meet
    case rel => exact ⟨_, (true), ze, H', ⟨by first | omega | exact Nat.le_refl _⟩, ⟨by (with_reducible repeat (first | apply Kd.Q_alloc | apply Kd.Q_drewN | apply Kd.Q_drew)); exact HO518.out⟩, ⟨zk BK520⟩, ⟨zb HB⟩⟩
  rw [if_pos c12] at H
  have c12b0 : (t521 == t522) = true := beq_iff_eq.mpr c12
  have c12b1 : (t521 != t522) = false := bne_eq_false_iff_eq.mpr c12
  clear c12
  (first | rw [c12b0] | (simp only [i64_w, i32_w]; rw [c12b0]) | skip)
  replace H := obs H
  obtain ⟨t523, A130, H⟩ := H
  replace H : (laws_FnVolUses.j0 k t519 t521 (!t523) t515 t516) = some r := H
  have A13 := am A130
  clear A130
  have H' := am H
  clear H
  have hcz14_0 := ce0 BK520
  have hcz14_1 := ce1 BK520
  have hfz14_0 := bfz BK520 0
  have hfz14_1 := bfz BK520 1
  go_wp2_with (first | ((with_reducible refine gate_callee (f := 28) rfl ?_); refine gl Try.func28 23 #[.agg #[.string t515, .slice Ao9 t516.length co9], .int .i64 t519] rfl rfl rfl ?_; (with_reducible refine (spec_VolUses.calls k t515 _ _ t516 t519 t522 _ ?side1 ?side2 A11.out).mono ?_); (case side1 => exact zc (Kd.Q_reads' HO518.out).2.2); (case side2 => exact (Kd.Q_reads' HO518.out).2.1); rintro e w15 ⟨rfl, hb⟩; refine ⟨_, rfl, ?_⟩; replace HO518 := am (Kd.Q_below (by (with_reducible repeat (first | apply Kd.Q_alloc | apply Kd.Q_drewN | apply Kd.Q_drew)); exact HO518.out) hb); replace BK520 := am (blk_below (zk BK520) hb); replace HB := am (below_step (zb HB) hb); (try clear hb); (try clear hb2); (try clear hk); (try clear hi); have hcz16_0 := ce0 BK520; have hcz16_1 := ce1 BK520; have hfz16_0 := bfz BK520 0; have hfz16_1 := bfz BK520 1) | (go_at_call 21; (with_reducible refine (spec_VolOk.calls k t515 _ _ t516 t523 _ ?side1 ?side2 A13.out).mono ?_); (case side1 => exact zc (Kd.Q_reads' HO518.out).2.2); (case side2 => exact (Kd.Q_reads' HO518.out).2.1); rintro e w17 ⟨rfl, hb⟩; replace HO518 := am (Kd.Q_below (by (with_reducible repeat (first | apply Kd.Q_alloc | apply Kd.Q_drewN | apply Kd.Q_drew)); exact HO518.out) hb); replace BK520 := am (blk_below (zk BK520) hb); replace HB := am (below_step (zb HB) hb); (try clear hb); (try clear hb2); (try clear hk); (try clear hi)))
  go_meet
  case rel => exact ⟨_, (!t523), ze, H', ⟨by first | omega | exact Nat.le_refl _⟩, ⟨by (with_reducible repeat (first | apply Kd.Q_alloc | apply Kd.Q_drewN | apply Kd.Q_drew)); exact HO518.out⟩, ⟨zk BK520⟩, ⟨zb HB⟩⟩
 clear HC5
 try clear c1
 try clear c2
 try clear c2b0
 try clear c2b1
 try clear p2
 try clear c8
 try clear c12
 try clear c12b0
 try clear c12b1
 try clear hcz14_0
 try clear hcz14_1
 try clear hcz16_0
 try clear hcz16_1
 try clear hcz18_0
 try clear hcz18_1
 try clear hcz8_0
 try clear hcz8_1
 try clear hfz14_0
 try clear hfz14_1
 try clear hfz16_0
 try clear hfz16_1
 try clear hfz18_0
 try clear hfz18_1
 try clear hfz8_0
 try clear hfz8_1
 obtain ⟨kq, x29_4, rfl, HA, HJ4, HO_521001, BK520, HB⟩ := hcut
 cases kq with
 | zero => exact absurd HA.out (by simp [laws_FnVolUses.j0])
 | succ kj4 =>
  have H := HA.out
  clear HA
  simp only [laws_FnVolUses.j0] at H
  by_cases c20 : x29_4 = true
  · subst c20
    have H1 : ((spec_VolUses.f kj4 t515 t516 t519).bind fun t524 => (some (t521 == t524))) = some r := by rw [if_pos rfl] at H; exact H
    clear H
    have H := H1
    clear H1
    replace H := obs H
    obtain ⟨t524, A210, H⟩ := H
    replace H : (some (t521 == t524)) = some r := H
    have A21 := am A210
    clear A210
    obtain rfl := Option.some.inj H
    have hcz22_0 := ce0 BK520
    have hcz22_1 := ce1 BK520
    have hfz22_0 := bfz BK520 0
    have hfz22_1 := bfz BK520 1
    go_wp2_with (first | ((with_reducible refine gate_callee (f := 28) rfl ?_); refine gl Try.func28 33 #[.agg #[.string t515, .slice Ao9 t516.length co9], .int .i64 t519] rfl rfl rfl ?_; (with_reducible refine (spec_VolUses.calls kj4 t515 _ _ t516 t519 t524 _ ?side1 ?side2 A21.out).mono ?_); (case side1 => exact zc (Kd.Q_reads' HO_521001.out).2.2); (case side2 => exact (Kd.Q_reads' HO_521001.out).2.1); rintro e w23 ⟨rfl, hb⟩; refine ⟨_, rfl, ?_⟩; replace HO_521001 := am (Kd.Q_below (by (with_reducible repeat (first | apply Kd.Q_alloc | apply Kd.Q_drewN | apply Kd.Q_drew)); exact HO_521001.out) hb); replace BK520 := am (blk_below (zk BK520) hb); replace HB := am (below_step (zb HB) hb); (try clear hb); (try clear hb2); (try clear hk); (try clear hi)))
    go_ret
    exact ⟨zv, (zb HB)⟩
  replace c20 := Bool.eq_false_iff.mpr c20
  subst c20
  have H1 : (laws_FnVolUses.l0 kj4 t521 0 1 t515 t516) = some r := by rw [if_neg (show ¬ (false = true) by decide)] at H; exact H
  clear H
  have H := H1
  clear H1
  have H' := am H
  clear H
  go_wp2
  go_loopg [6, 7] kj4 (fun kq v6 v7 w' => ∃ (x6_2 : Int) (x7_2 : Int), v6 = .int .i64 x6_2 ∧ v7 = .int .i64 x7_2 ∧ Aside0 (laws_FnVolUses.l0 kq t521 x6_2 x7_2 t515 t516 = some r) ∧ Aside0 (kq ≤ kj4) ∧ Aside0 (Kd.Q (Kd.int .i64) 3 w' w.heap.size (fun _ => True) (.slice Ao9 t516.length co9) t516) ∧ Aside0 (w'.heap[gb520]? = some (.cells #[.string t515, (.slice Ao9 t516.length co9)] 38 (0, 0))) ∧ Aside0 (Below w.heap.size w w'))
  case atStart => exact ⟨(0), (1), ze, ze, H', ⟨Nat.le_refl _⟩, ⟨by (with_reducible repeat (first | apply Kd.Q_alloc | apply Kd.Q_drewN | apply Kd.Q_drew)); exact HO_521001.out⟩, ⟨zk BK520⟩, ⟨zb HB⟩⟩
  case round =>
   clear H'
   try clear c1
   try clear c2
   try clear c2b0
   try clear c2b1
   try clear p2
   try clear c8
   try clear c12
   try clear c12b0
   try clear c12b1
   try clear c20
   try clear hcz14_0
   try clear hcz14_1
   try clear hcz16_0
   try clear hcz16_1
   try clear hcz18_0
   try clear hcz18_1
   try clear hcz22_0
   try clear hcz22_1
   try clear hcz8_0
   try clear hcz8_1
   try clear hfz14_0
   try clear hfz14_1
   try clear hfz16_0
   try clear hfz16_1
   try clear hfz18_0
   try clear hfz18_1
   try clear hfz22_0
   try clear hfz22_1
   try clear hfz8_0
   try clear hfz8_1
   try clear p2
   obtain ⟨x6_2, x7_2, rfl, rfl, HA, HK2, HO_521001, BK520, HB⟩ := hrel
   cases gk with
   | zero => exact absurd HA.out (by simp [laws_FnVolUses.l0])
   | succ k2 =>
    have H := HA.out
    clear HA
    simp only [laws_FnVolUses.l0] at H
    by_cases c24 : x7_2 ≤ 8
    · rw [if_pos c24] at H
      have c24b0 : decide (x7_2 ≤ 8) = true := decide_eq_true c24
      clear c24
      replace H := obs H
      obtain ⟨t525, A250, H⟩ := H
      replace H : (laws_FnVolUses.l0 k2 t521 (wrap64 (x6_2 + t525)) (wrap64 (x7_2 + 1)) t515 t516) = some r := H
      have A25 := am A250
      clear A250
      have H' := am H
      clear H
      have hcz26_0 := ce0 BK520
      have hcz26_1 := ce1 BK520
      have hfz26_0 := bfz BK520 0
      have hfz26_1 := bfz BK520 1
      go_wp2_with (first | ((with_reducible refine gate_callee (f := 27) rfl ?_); refine gl Try.func27 42 #[.agg #[.string t515, .slice Ao9 t516.length co9], .int .i64 x7_2] rfl rfl rfl ?_; (with_reducible refine (impl_VolUses.calls k2 t515 _ _ t516 x7_2 t525 _ ?side1 ?side2 A25.out).mono ?_); (case side1 => exact zc (Kd.Q_reads' HO_521001.out).2.2); (case side2 => exact (Kd.Q_reads' HO_521001.out).2.1); rintro e w27 ⟨rfl, hb⟩; refine ⟨_, rfl, ?_⟩; replace HO_521001 := am (Kd.Q_below (by (with_reducible repeat (first | apply Kd.Q_alloc | apply Kd.Q_drewN | apply Kd.Q_drew)); exact HO_521001.out) hb); replace BK520 := am (blk_below (zk BK520) hb); replace HB := am (below_step (zb HB) hb); (try clear hb); (try clear hb2); (try clear hk); (try clear hi)))
      go_roundg k2
      case measure => have := HJ4.out; have := HK2.out; omega
      case rel => exact ⟨(wrap64 (x6_2 + t525)), (wrap64 (x7_2 + 1)), ze, ze, H', ⟨by have := HJ4.out; have := HK2.out; omega⟩, ⟨by (with_reducible repeat (first | apply Kd.Q_alloc | apply Kd.Q_drewN | apply Kd.Q_drew)); exact HO_521001.out⟩, ⟨zk BK520⟩, ⟨zb HB⟩⟩
    rw [if_neg c24] at H
    have c24b0 : decide (x7_2 ≤ 8) = false := decide_eq_false c24
    clear c24
    have H' := am H
    clear H
    go_wp2
    go_loopg [6, 8] k2 (fun kq v6 v8 w' => ∃ (x6_3 : Int) (x8_3 : Int), v6 = .int .i64 x6_3 ∧ v8 = .int .i64 x8_3 ∧ Aside0 (laws_FnVolUses.l1 kq t521 x6_3 x8_3 t515 t516 = some r) ∧ Aside0 (kq ≤ k2) ∧ Aside0 (Kd.Q (Kd.int .i64) 3 w' w.heap.size (fun _ => True) (.slice Ao9 t516.length co9) t516) ∧ Aside0 (w'.heap[gb520]? = some (.cells #[.string t515, (.slice Ao9 t516.length co9)] 38 (0, 0))) ∧ Aside0 (Below w.heap.size w w'))
    case atStart => exact ⟨(x6_2), (0), ze, ze, H', ⟨Nat.le_refl _⟩, ⟨by (with_reducible repeat (first | apply Kd.Q_alloc | apply Kd.Q_drewN | apply Kd.Q_drew)); exact HO_521001.out⟩, ⟨zk BK520⟩, ⟨zb HB⟩⟩
    case round =>
     clear H'
     try clear c1
     try clear c2
     try clear c2b0
     try clear c2b1
     try clear p2
     try clear p6
     try clear c8
     try clear c12
     try clear c12b0
     try clear c12b1
     try clear c20
     try clear c24
     try clear c24b0
     try clear c26
     try clear c27
     try clear hcz14_0
     try clear hcz14_1
     try clear hcz16_0
     try clear hcz16_1
     try clear hcz18_0
     try clear hcz18_1
     try clear hcz22_0
     try clear hcz22_1
     try clear hcz26_0
     try clear hcz26_1
     try clear hcz8_0
     try clear hcz8_1
     try clear hfz14_0
     try clear hfz14_1
     try clear hfz16_0
     try clear hfz16_1
     try clear hfz18_0
     try clear hfz18_1
     try clear hfz22_0
     try clear hfz22_1
     try clear hfz26_0
     try clear hfz26_1
     try clear hfz8_0
     try clear hfz8_1
     try clear p2
     obtain ⟨x6_3, x8_3, rfl, rfl, HA, HK3, HO_521001, BK520, HB⟩ := hrel
     cases gk with
     | zero => exact absurd HA.out (by simp [laws_FnVolUses.l1])
     | succ k3 =>
      have H := HA.out
      clear HA
      simp only [laws_FnVolUses.l1] at H
      by_cases c28 : x8_3 < (t516.length : Int)
      rotate_left
      · rw [if_neg c28] at H
        have c28b0 : decide (x8_3 < (t516.length : Int)) = false := decide_eq_false c28
        clear c28
        by_cases c33 : x6_3 = (t516.length : Int)
        rotate_left
        · rw [if_neg c33] at H
          have c33b0 : (x6_3 == (t516.length : Int)) = false := beq_eq_false_iff_ne.mpr c33
          have c33b1 : (x6_3 != (t516.length : Int)) = true := bne_iff_ne.mpr c33
          exact Bool.noConfusion ((Option.some.inj H).trans hr_)
        rw [if_pos c33] at H
        have c33b0 : (x6_3 == (t516.length : Int)) = true := beq_iff_eq.mpr c33
        have c33b1 : (x6_3 != (t516.length : Int)) = false := bne_eq_false_iff_eq.mpr c33
        clear c33
        by_cases c34 : t521 ≥ 0
        rotate_left
        · rw [if_neg c34] at H
          have c34b0 : decide (0 ≤ t521) = false := decide_eq_false c34
          clear c34
          exact Bool.noConfusion ((Option.some.inj H).trans hr_)
        rw [if_pos c34] at H
        have c34b0 : decide (0 ≤ t521) = true := decide_eq_true c34
        clear c34
        replace H := obs H
        obtain ⟨t527, A350, H⟩ := H
        replace H : (some (t527 == 0)) = some r := H
        have A35 := am A350
        clear A350
        obtain rfl := Option.some.inj H
        have hcz36_0 := ce0 BK520
        have hcz36_1 := ce1 BK520
        have hfz36_0 := bfz BK520 0
        have hfz36_1 := bfz BK520 1
        go_wp2_with (first | (go_at_call 27; (with_reducible refine (impl_VolUses.calls k3 t515 _ _ t516 0 t527 _ ?side1 ?side2 A35.out).mono ?_); (case side1 => exact zc (Kd.Q_reads' HO_521001.out).2.2); (case side2 => exact (Kd.Q_reads' HO_521001.out).2.1); rintro e w37 ⟨rfl, hb⟩; replace HO_521001 := am (Kd.Q_below (by (with_reducible repeat (first | apply Kd.Q_alloc | apply Kd.Q_drewN | apply Kd.Q_drew)); exact HO_521001.out) hb); replace BK520 := am (blk_below (zk BK520) hb); replace HB := am (below_step (zb HB) hb); (try clear hb); (try clear hb2); (try clear hk); (try clear hi)))
        go_ret
        exact ⟨zv, (zb HB)⟩
      rw [if_pos c28] at H
      have c28b0 : decide (x8_3 < (t516.length : Int)) = true := decide_eq_true c28
      clear c28
      by_cases c29 : 0 ≤ x8_3
      rotate_left
      · rw [if_neg c29] at H
        exact absurd H (by simp)
      rw [if_pos c29] at H
      have c29b0 : decide (0 ≤ x8_3) = true := decide_eq_true c29
      clear c29
      by_cases c30 : (rd t516 x8_3) = 0
      · rw [if_pos c30] at H
        have c30b0 : ((rd t516 x8_3) == 0) = true := beq_iff_eq.mpr c30
        have c30b1 : ((rd t516 x8_3) != 0) = false := bne_eq_false_iff_eq.mpr c30
        clear c30
        have H' := am H
        clear H
        have hcz31_0 := ce0 BK520
        have hcz31_1 := ce1 BK520
        have hfz31_0 := bfz BK520 0
        have hfz31_1 := bfz BK520 1
        have p526 : 0 ≤ (x8_3 : Int) := of_decide_eq_true zl
        have q526 : x8_3 < (t516.length : Int) := of_decide_eq_true zl
        obtain ⟨ad526, e526, hx526_0⟩ := Kd.at_int (Kd.Q_reads' HO_521001.out).2.2 x8_3 p526 q526
        cases e526
        replace p526 := eq_true p526
        replace q526 := eq_true q526
        go_wp2
        go_roundg k3
        case measure => have := HJ4.out; have := HK2.out; have := HK3.out; omega
        case rel => exact ⟨(wrap64 (x6_3 + 1)), (wrap64 (x8_3 + 1)), ze, ze, H', ⟨by have := HJ4.out; have := HK2.out; have := HK3.out; omega⟩, ⟨by (with_reducible repeat (first | apply Kd.Q_alloc | apply Kd.Q_drewN | apply Kd.Q_drew)); exact HO_521001.out⟩, ⟨zk BK520⟩, ⟨zb HB⟩⟩
      rw [if_neg c30] at H
      have c30b0 : ((rd t516 x8_3) == 0) = false := beq_eq_false_iff_ne.mpr c30
      have c30b1 : ((rd t516 x8_3) != 0) = true := bne_iff_ne.mpr c30
      have H' := am H
      clear H
      have hcz32_0 := ce0 BK520
      have hcz32_1 := ce1 BK520
      have hfz32_0 := bfz BK520 0
      have hfz32_1 := bfz BK520 1
      have p526 : 0 ≤ (x8_3 : Int) := of_decide_eq_true zl
      have q526 : x8_3 < (t516.length : Int) := of_decide_eq_true zl
      obtain ⟨ad526, e526, hx526_0⟩ := Kd.at_int (Kd.Q_reads' HO_521001.out).2.2 x8_3 p526 q526
      cases e526
      replace p526 := eq_true p526
      replace q526 := eq_true q526
      go_wp2
      go_roundg k3
      case measure => have := HJ4.out; have := HK2.out; have := HK3.out; omega
      case rel => exact ⟨(x6_3), (wrap64 (x8_3 + 1)), ze, ze, H', ⟨by have := HJ4.out; have := HK2.out; have := HK3.out; omega⟩, ⟨by (with_reducible repeat (first | apply Kd.Q_alloc | apply Kd.Q_drewN | apply Kd.Q_drew)); exact HO_521001.out⟩, ⟨zk BK520⟩, ⟨zb HB⟩⟩
/-- THE ONE PURE STATEMENT of laws_FnVolUses: yours. -/
def laws_FnVolUses.Pure : Prop := ∀ (l0 : List Int), l0.length ≤ maxLen → l0.length * 1 ≤ 140737488351232 → (∀ x ∈ l0, (Lit.int .u8 x).wf = true) → ∃ k, laws_FnVolUses.f k l0 = some true
theorem laws_FnVolUses.walk (P : laws_FnVolUses.Pure) (a0 : Option Addr) (len0 cap0 : Nat) (z0 : List Int) (w : World) (w0 : (a0 = none ∧ len0 = 0 ∧ cap0 = 0 ∧ z0 = []) ∨ ∃ x, a0 = some x ∧ len0 ≤ cap0 ∧ cap0 ≤ maxLen ∧ z0.length = cap0 ∧ (∀ i, i < z0.length → w.cell? (x.add i) = some (.int .u8 (z0.getD i 0))) ∧ ∀ n ∈ z0, (Lit.int .u8 n).wf = true) (y0 : len0 * 1 ≤ 140737488351232) :
 Calls Try.prog 8 #[.slice a0 len0 cap0] w fun e w' => e = .returned (.bool true) ∧ Below w.heap.size w w' := by
 obtain ⟨l0, rfl, hr0, hm0, hw0, hc0⟩ := ReadsInt.ofRowC w0
 obtain ⟨k, h⟩ := P l0 hm0 y0 hw0
 refine (laws_FnVolUses.calls k _ _ l0 true w (Kd.C_of_reads (d := (0 : Int)) (h1 := fun _ => rfl) hr0) hc0 h rfl).mono ?_
 rintro e w' ⟨rfl, hd⟩
 exact ⟨rfl, hd⟩
end Go.Proofs.Ytooamacekmjpaaa.PFnVolUses
