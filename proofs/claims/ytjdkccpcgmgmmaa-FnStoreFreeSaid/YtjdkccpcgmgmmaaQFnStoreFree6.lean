/- The walk: each function that the law comes to as a plain Lean function, and a proof that the Go code answers so. Written by this session's program over the kit's printer. -/
import Derived.Test.YtjdkccpcgmgmmaaQFnStoreFree0
import Derived.Test.YtjdkccpcgmgmmaaQFnStoreFree2
import Derived.Test.YtjdkccpcgmgmmaaQFnStoreFree3
import Derived.Test.YtjdkccpcgmgmmaaQFnStoreFree5
namespace Go.Proofs.Ytjdkccpcgmgmmaa.PFnStoreFree
open Go.RowKit Go.Proofs.YtjdkccpcgmgmmaaW.PrintWords Go.Proofs.YtjdkccpcgmgmmaaW.PrintLast Go.Proofs.YtjdkccpcgmgmmaaW.PrintMore
attribute [local go_sem] max2_int min2_int max_two min_two max_three min_three max_four min_four   -- for this text's walks alone
set_option linter.unusedVariables false
set_option linter.unusedSimpArgs false

/-! ### laws_FnStoreFree: function 7 -/
mutual
def laws_FnStoreFree.j0 : Nat → List (S36) → Int → Bool → Option (Bool)
  | 0, _, _, _ => none
  | k + 1, x3, x4, x23 => if x23 = true then ((spec_StoreFree.f k x3).bind fun t214 => (some (x4 == t214))) else (laws_FnStoreFree.l0 k x3 x4 0 0)
def laws_FnStoreFree.l0 : Nat → List (S36) → Int → Int → Int → Option (Bool)
  | 0, _, _, _, _ => none
  | k + 1, x3, x4, x5, x6 => if x6 < (x3.length : Int) then (if 0 ≤ x6 then (if ((rd_T36 x3 x6).f1) = 0 then (laws_FnStoreFree.j2 k x3 x4 (wrap64 (x5 + 1)) x6) else (laws_FnStoreFree.j2 k x3 x4 x5 x6)) else (none)) else (if x4 = x5 then ((impl_StoreNew.f).bind fun t215 => ((impl_StoreFree.f k t215).bind fun t218 => (some (t218 == 8)))) else (some false))
def laws_FnStoreFree.j2 : Nat → List (S36) → Int → Int → Int → Option (Bool)
  | 0, _, _, _, _ => none
  | k + 1, x3, x4, x5, x6 => laws_FnStoreFree.l1 k x3 x4 x5 x6 0
def laws_FnStoreFree.l1 : Nat → List (S36) → Int → Int → Int → Int → Option (Bool)
  | 0, _, _, _, _, _ => none
  | k + 1, x3, x4, x5, x6, x7 => if x7 < x6 then (if 0 ≤ x6 then (if x6 < (x3.length : Int) then (if ((rd_T36 x3 x6).f0).toList = ([] : List UInt8) then (laws_FnStoreFree.l1 k x3 x4 x5 x6 (wrap64 (x7 + 1))) else (if 0 ≤ x7 then (if x7 < (x3.length : Int) then (if ((rd_T36 x3 x6).f0).toList = ((rd_T36 x3 x7).f0).toList then (some false) else (laws_FnStoreFree.l1 k x3 x4 x5 x6 (wrap64 (x7 + 1)))) else (none)) else (none))) else (none)) else (none)) else (laws_FnStoreFree.l0 k x3 x4 x5 (wrap64 (x6 + 1)))
end
def laws_FnStoreFree.f (k : Nat) (l0 : List Int) : Option (Bool) := if (l0.length : Int) > 1048576 then (some true) else ((spec_DrawStoreFree.f k l0).bind fun t208 => ((impl_StoreFree.f k t208).bind fun t211 => ((spec_StoreFree.f k t208).bind fun t212 => (if t211 = t212 then ((spec_StoreOk.f k t208).bind fun t213 => (laws_FnStoreFree.j0 k t208 t211 (!t213))) else (laws_FnStoreFree.j0 k t208 t211 true)))))
theorem laws_FnStoreFree.mono_l : ∀ k, (∀ y0 y1 y2, LeO (laws_FnStoreFree.j0 k y0 y1 y2) (laws_FnStoreFree.j0 (k + 1) y0 y1 y2)) ∧ (∀ y0 y1 y2 y3, LeO (laws_FnStoreFree.l0 k y0 y1 y2 y3) (laws_FnStoreFree.l0 (k + 1) y0 y1 y2 y3)) ∧ (∀ y0 y1 y2 y3, LeO (laws_FnStoreFree.j2 k y0 y1 y2 y3) (laws_FnStoreFree.j2 (k + 1) y0 y1 y2 y3)) ∧ (∀ y0 y1 y2 y3 y4, LeO (laws_FnStoreFree.l1 k y0 y1 y2 y3 y4) (laws_FnStoreFree.l1 (k + 1) y0 y1 y2 y3 y4))
  | 0 => ⟨fun _ _ _ r h => by simp [laws_FnStoreFree.j0] at h, fun _ _ _ _ r h => by simp [laws_FnStoreFree.l0] at h, fun _ _ _ _ r h => by simp [laws_FnStoreFree.j2] at h, fun _ _ _ _ _ r h => by simp [laws_FnStoreFree.l1] at h⟩
  | k + 1 => by
    obtain ⟨ih0, ih1, ih2, ih3⟩ := laws_FnStoreFree.mono_l k
    refine ⟨?_, ?_, ?_, ?_⟩
    · intro y0 y1 y2
      unfold laws_FnStoreFree.j0
      repeat' first
      | (with_reducible exact ih0 _ _ _)
      | (with_reducible exact ih1 _ _ _ _)
      | (with_reducible exact ih2 _ _ _ _)
      | (with_reducible exact ih3 _ _ _ _ _)
      | (with_reducible exact impl_StoreFree.mono _ _)
      | (with_reducible exact spec_DrawStoreFree.mono _ _)
      | (with_reducible exact spec_StoreFree.mono _ _)
      | (with_reducible exact spec_StoreOk.mono _ _)
      | (with_reducible exact LeO.refl _)
      | (with_reducible exact LeO.none _)
      | (with_reducible refine LeO.ite ?_ ?_)
      | (with_reducible refine LeO.bind ?_ (fun _ => ?_))
      | exact ih0 _ _ _
      | exact ih1 _ _ _ _
      | exact ih2 _ _ _ _
      | exact ih3 _ _ _ _ _
      | exact impl_StoreFree.mono _ _
      | exact spec_DrawStoreFree.mono _ _
      | exact spec_StoreFree.mono _ _
      | exact spec_StoreOk.mono _ _
      | exact LeO.none _
      | refine LeO.ite ?_ ?_
      | refine LeO.bind ?_ (fun _ => ?_)
    · intro y0 y1 y2 y3
      unfold laws_FnStoreFree.l0
      repeat' first
      | (with_reducible exact ih0 _ _ _)
      | (with_reducible exact ih1 _ _ _ _)
      | (with_reducible exact ih2 _ _ _ _)
      | (with_reducible exact ih3 _ _ _ _ _)
      | (with_reducible exact impl_StoreFree.mono _ _)
      | (with_reducible exact spec_DrawStoreFree.mono _ _)
      | (with_reducible exact spec_StoreFree.mono _ _)
      | (with_reducible exact spec_StoreOk.mono _ _)
      | (with_reducible exact LeO.refl _)
      | (with_reducible exact LeO.none _)
      | (with_reducible refine LeO.ite ?_ ?_)
      | (with_reducible refine LeO.bind ?_ (fun _ => ?_))
      | exact ih0 _ _ _
      | exact ih1 _ _ _ _
      | exact ih2 _ _ _ _
      | exact ih3 _ _ _ _ _
      | exact impl_StoreFree.mono _ _
      | exact spec_DrawStoreFree.mono _ _
      | exact spec_StoreFree.mono _ _
      | exact spec_StoreOk.mono _ _
      | exact LeO.none _
      | refine LeO.ite ?_ ?_
      | refine LeO.bind ?_ (fun _ => ?_)
    · intro y0 y1 y2 y3
      unfold laws_FnStoreFree.j2
      repeat' first
      | (with_reducible exact ih0 _ _ _)
      | (with_reducible exact ih1 _ _ _ _)
      | (with_reducible exact ih2 _ _ _ _)
      | (with_reducible exact ih3 _ _ _ _ _)
      | (with_reducible exact impl_StoreFree.mono _ _)
      | (with_reducible exact spec_DrawStoreFree.mono _ _)
      | (with_reducible exact spec_StoreFree.mono _ _)
      | (with_reducible exact spec_StoreOk.mono _ _)
      | (with_reducible exact LeO.refl _)
      | (with_reducible exact LeO.none _)
      | (with_reducible refine LeO.ite ?_ ?_)
      | (with_reducible refine LeO.bind ?_ (fun _ => ?_))
      | exact ih0 _ _ _
      | exact ih1 _ _ _ _
      | exact ih2 _ _ _ _
      | exact ih3 _ _ _ _ _
      | exact impl_StoreFree.mono _ _
      | exact spec_DrawStoreFree.mono _ _
      | exact spec_StoreFree.mono _ _
      | exact spec_StoreOk.mono _ _
      | exact LeO.none _
      | refine LeO.ite ?_ ?_
      | refine LeO.bind ?_ (fun _ => ?_)
    · intro y0 y1 y2 y3 y4
      unfold laws_FnStoreFree.l1
      repeat' first
      | (with_reducible exact ih0 _ _ _)
      | (with_reducible exact ih1 _ _ _ _)
      | (with_reducible exact ih2 _ _ _ _)
      | (with_reducible exact ih3 _ _ _ _ _)
      | (with_reducible exact impl_StoreFree.mono _ _)
      | (with_reducible exact spec_DrawStoreFree.mono _ _)
      | (with_reducible exact spec_StoreFree.mono _ _)
      | (with_reducible exact spec_StoreOk.mono _ _)
      | (with_reducible exact LeO.refl _)
      | (with_reducible exact LeO.none _)
      | (with_reducible refine LeO.ite ?_ ?_)
      | (with_reducible refine LeO.bind ?_ (fun _ => ?_))
      | exact ih0 _ _ _
      | exact ih1 _ _ _ _
      | exact ih2 _ _ _ _
      | exact ih3 _ _ _ _ _
      | exact impl_StoreFree.mono _ _
      | exact spec_DrawStoreFree.mono _ _
      | exact spec_StoreFree.mono _ _
      | exact spec_StoreOk.mono _ _
      | exact LeO.none _
      | refine LeO.ite ?_ ?_
      | refine LeO.bind ?_ (fun _ => ?_)
theorem laws_FnStoreFree.mono : ∀ a0 k, LeO (laws_FnStoreFree.f k a0) (laws_FnStoreFree.f (k + 1) a0) := by
  intro a0 k
  obtain ⟨ih0, ih1, ih2, ih3⟩ := laws_FnStoreFree.mono_l k
  unfold laws_FnStoreFree.f
  repeat' first
      | (with_reducible exact ih0 _ _ _)
      | (with_reducible exact ih1 _ _ _ _)
      | (with_reducible exact ih2 _ _ _ _)
      | (with_reducible exact ih3 _ _ _ _ _)
      | (with_reducible exact impl_StoreFree.mono _ _)
      | (with_reducible exact spec_DrawStoreFree.mono _ _)
      | (with_reducible exact spec_StoreFree.mono _ _)
      | (with_reducible exact spec_StoreOk.mono _ _)
      | (with_reducible exact LeO.refl _)
      | (with_reducible exact LeO.none _)
      | (with_reducible refine LeO.ite ?_ ?_)
      | (with_reducible refine LeO.bind ?_ (fun _ => ?_))
      | exact ih0 _ _ _
      | exact ih1 _ _ _ _
      | exact ih2 _ _ _ _
      | exact ih3 _ _ _ _ _
      | exact impl_StoreFree.mono _ _
      | exact spec_DrawStoreFree.mono _ _
      | exact spec_StoreFree.mono _ _
      | exact spec_StoreOk.mono _ _
      | exact LeO.none _
      | refine LeO.ite ?_ ?_
      | refine LeO.bind ?_ (fun _ => ?_)
set_option maxHeartbeats 8000000 in
set_option maxRecDepth 100000 in
theorem laws_FnStoreFree.calls (k : Nat) (A0 : Option Addr) (c0 : Nat) (l0 : List Int) (r : Bool) (w : World) (hr0 : Kd.C (Kd.int .u8) w A0 l0.length l0) (hc0 : l0.length ≤ c0) (h : laws_FnStoreFree.f k l0 = some r) :
    Calls Try.prog 7 #[.slice A0 l0.length c0] w fun e w' => e = .returned (.bool r) ∧ Below w.heap.size w w' := by
  have HR0 := Aside0.mk hr0
  have HC0 := Aside0.mk hc0
  clear hr0 hc0
  have HB := Aside0.mk (Below.refl w.heap.size w)
  have H : (if (l0.length : Int) > 1048576 then (some true) else ((spec_DrawStoreFree.f k l0).bind fun t208 => ((impl_StoreFree.f k t208).bind fun t211 => ((spec_StoreFree.f k t208).bind fun t212 => (if t211 = t212 then ((spec_StoreOk.f k t208).bind fun t213 => (laws_FnStoreFree.j0 k t208 t211 (!t213))) else (laws_FnStoreFree.j0 k t208 t211 true)))))) = some r := h
  clear h
  by_cases c2 : (l0.length : Int) > 1048576
  · rw [if_pos c2] at H
    have c2b0 : decide (1048576 < (l0.length : Int)) = true := decide_eq_true c2
    have c2b1 : decide (1048576 < l0.length) = true := decide_eq_true (by omega)
    clear c2
    obtain rfl := Option.some.inj H
    go_enter Try.func7, Try.ntmps7
    go_wp2
    repeat (go_quiet (fail); try go_wp2)
    go_ret
    exact ⟨by first | rfl | (simp [errW_none, errW_some] <;> rfl) | (simp [errW_none, errW_some]; first | exact Go.Proofs.YtjdkccpcgmgmmaaB.emp1 _ | exact Go.Proofs.YtjdkccpcgmgmmaaB.emp2 _ | exact Go.Proofs.YtjdkccpcgmgmmaaB.emp3 _) | (simp [*, errW_none, errW_some] <;> rfl), by repeat (first | (with_reducible first | exact HB.out | apply below_alloc | apply pw_below_drewN | apply below_drew1) | exact HB.out)⟩
  · rw [if_neg c2] at H
    have c2b0 : decide (1048576 < (l0.length : Int)) = false := decide_eq_false c2
    have c2b1 : decide (1048576 < l0.length) = false := decide_eq_false (by omega)
    clear c2
    replace H := Option.bind_eq_some_iff.mp H
    obtain ⟨t208, A30, H⟩ := H
    replace H : ((impl_StoreFree.f k t208).bind fun t211 => ((spec_StoreFree.f k t208).bind fun t212 => (if t211 = t212 then ((spec_StoreOk.f k t208).bind fun t213 => (laws_FnStoreFree.j0 k t208 t211 (!t213))) else (laws_FnStoreFree.j0 k t208 t211 true)))) = some r := H
    have A3 := Aside0.mk A30
    clear A30
    replace H := Option.bind_eq_some_iff.mp H
    obtain ⟨t211, A40, H⟩ := H
    replace H : ((spec_StoreFree.f k t208).bind fun t212 => (if t211 = t212 then ((spec_StoreOk.f k t208).bind fun t213 => (laws_FnStoreFree.j0 k t208 t211 (!t213))) else (laws_FnStoreFree.j0 k t208 t211 true))) = some r := H
    have A4 := Aside0.mk A40
    clear A40
    have HC5 := Aside0.mk H
    clear H
    go_enter Try.func7, Try.ntmps7
    go_upto_region 5 with (first | (go_at_call 29; (with_reducible refine (spec_DrawStoreFree.calls k _ _ l0 t208 _ ?side1 ?side2 A3.out).mono ?_); (case side1 => repeat (first | exact HR0.out | (with_reducible refine Kd.C_alloc ?_ _) | (with_reducible refine Kd.C_drewN ?_ _) | (with_reducible refine Kd.C_drew ?_))); (case side2 => exact HC0.out); rintro e w6 ⟨v209, rfl, ho0, hb⟩; have n0_ := Aside0.mk (Kd.Q_lower ho0 (below_size (by repeat (first | (with_reducible first | exact HB.out | apply below_alloc | apply pw_below_drewN | apply below_drew1) | exact HB.out)))); have n1_ := Aside0.mk (below_step (by repeat (first | (with_reducible first | exact HB.out | apply below_alloc | apply pw_below_drewN | apply below_drew1) | exact HB.out)) hb); clear HB; have HO210 := n0_; have HB := n1_; clear n0_ n1_; (try clear hb); (try clear hb2); (try clear hk); (try clear hi); (try clear ho0); obtain ⟨Ao7, co7, eo7, _⟩ := Kd.Q_slice HO210.out; subst eo7) | (go_at_call 25; (with_reducible refine (impl_StoreFree.calls k _ _ t208 t211 _ ?side1 ?side2 A4.out).mono ?_); (case side1 => repeat (first | exact (Kd.Q_reads' HO210.out).2.2 | (with_reducible refine Kd.C_alloc ?_ _) | (with_reducible refine Kd.C_drewN ?_ _) | (with_reducible refine Kd.C_drew ?_))); (case side2 => exact (Kd.Q_reads' HO210.out).2.1); rintro e w8 ⟨rfl, hb⟩; have n0_ := Aside0.mk (Kd.Q_below (by (with_reducible repeat (first | apply Kd.Q_alloc | apply Kd.Q_drewN | apply Kd.Q_drew)); exact HO210.out) hb); have n1_ := Aside0.mk (below_step (by repeat (first | (with_reducible first | exact HB.out | apply below_alloc | apply pw_below_drewN | apply below_drew1) | exact HB.out)) hb); clear HO210; clear HB; have HO210 := n0_; have HB := n1_; clear n0_ n1_; (try clear hb); (try clear hb2); (try clear hk); (try clear hi)))
    repeat (go_quiet (first | (go_at_call 29; (with_reducible refine (spec_DrawStoreFree.calls k _ _ l0 t208 _ ?side1 ?side2 A3.out).mono ?_); (case side1 => repeat (first | exact HR0.out | (with_reducible refine Kd.C_alloc ?_ _) | (with_reducible refine Kd.C_drewN ?_ _) | (with_reducible refine Kd.C_drew ?_))); (case side2 => exact HC0.out); rintro e w6 ⟨v209, rfl, ho0, hb⟩; have n0_ := Aside0.mk (Kd.Q_lower ho0 (below_size (by repeat (first | (with_reducible first | exact HB.out | apply below_alloc | apply pw_below_drewN | apply below_drew1) | exact HB.out)))); have n1_ := Aside0.mk (below_step (by repeat (first | (with_reducible first | exact HB.out | apply below_alloc | apply pw_below_drewN | apply below_drew1) | exact HB.out)) hb); clear HB; have HO210 := n0_; have HB := n1_; clear n0_ n1_; (try clear hb); (try clear hb2); (try clear hk); (try clear hi); (try clear ho0); obtain ⟨Ao7, co7, eo7, _⟩ := Kd.Q_slice HO210.out; subst eo7) | (go_at_call 25; (with_reducible refine (impl_StoreFree.calls k _ _ t208 t211 _ ?side1 ?side2 A4.out).mono ?_); (case side1 => repeat (first | exact (Kd.Q_reads' HO210.out).2.2 | (with_reducible refine Kd.C_alloc ?_ _) | (with_reducible refine Kd.C_drewN ?_ _) | (with_reducible refine Kd.C_drew ?_))); (case side2 => exact (Kd.Q_reads' HO210.out).2.1); rintro e w8 ⟨rfl, hb⟩; have n0_ := Aside0.mk (Kd.Q_below (by (with_reducible repeat (first | apply Kd.Q_alloc | apply Kd.Q_drewN | apply Kd.Q_drew)); exact HO210.out) hb); have n1_ := Aside0.mk (below_step (by repeat (first | (with_reducible first | exact HB.out | apply below_alloc | apply pw_below_drewN | apply below_drew1) | exact HB.out)) hb); clear HO210; clear HB; have HO210 := n0_; have HB := n1_; clear n0_ n1_; (try clear hb); (try clear hb2); (try clear hk); (try clear hi))); go_upto_region 5 with (first | (go_at_call 29; (with_reducible refine (spec_DrawStoreFree.calls k _ _ l0 t208 _ ?side1 ?side2 A3.out).mono ?_); (case side1 => repeat (first | exact HR0.out | (with_reducible refine Kd.C_alloc ?_ _) | (with_reducible refine Kd.C_drewN ?_ _) | (with_reducible refine Kd.C_drew ?_))); (case side2 => exact HC0.out); rintro e w6 ⟨v209, rfl, ho0, hb⟩; have n0_ := Aside0.mk (Kd.Q_lower ho0 (below_size (by repeat (first | (with_reducible first | exact HB.out | apply below_alloc | apply pw_below_drewN | apply below_drew1) | exact HB.out)))); have n1_ := Aside0.mk (below_step (by repeat (first | (with_reducible first | exact HB.out | apply below_alloc | apply pw_below_drewN | apply below_drew1) | exact HB.out)) hb); clear HB; have HO210 := n0_; have HB := n1_; clear n0_ n1_; (try clear hb); (try clear hb2); (try clear hk); (try clear hi); (try clear ho0); obtain ⟨Ao7, co7, eo7, _⟩ := Kd.Q_slice HO210.out; subst eo7) | (go_at_call 25; (with_reducible refine (impl_StoreFree.calls k _ _ t208 t211 _ ?side1 ?side2 A4.out).mono ?_); (case side1 => repeat (first | exact (Kd.Q_reads' HO210.out).2.2 | (with_reducible refine Kd.C_alloc ?_ _) | (with_reducible refine Kd.C_drewN ?_ _) | (with_reducible refine Kd.C_drew ?_))); (case side2 => exact (Kd.Q_reads' HO210.out).2.1); rintro e w8 ⟨rfl, hb⟩; have n0_ := Aside0.mk (Kd.Q_below (by (with_reducible repeat (first | apply Kd.Q_alloc | apply Kd.Q_drewN | apply Kd.Q_drew)); exact HO210.out) hb); have n1_ := Aside0.mk (below_step (by repeat (first | (with_reducible first | exact HB.out | apply below_alloc | apply pw_below_drewN | apply below_drew1) | exact HB.out)) hb); clear HO210; clear HB; have HO210 := n0_; have HB := n1_; clear n0_ n1_; (try clear hb); (try clear hb2); (try clear hk); (try clear hi))))
    (try simp only [Act.put, List.setIfInBounds_toArray, List.set_cons_zero, List.set_cons_succ])
    go_cut [23] (fun v23 wc => ∃ (kq : Nat) (x23_4 : Bool), v23 = .bool x23_4 ∧ Aside0 (laws_FnStoreFree.j0 kq t208 t211 x23_4 = some r) ∧ Aside0 (kq ≤ k) ∧ Aside0 (Kd.Q k36 36 wc w.heap.size (fun _ => True) (.slice Ao7 t208.length co7) t208) ∧ Aside0 (Below w.heap.size w wc))
    case first =>
      have H := HC5.out
      clear HC5
      replace H := Option.bind_eq_some_iff.mp H
      obtain ⟨t212, A90, H⟩ := H
      replace H : (if t211 = t212 then ((spec_StoreOk.f k t208).bind fun t213 => (laws_FnStoreFree.j0 k t208 t211 (!t213))) else (laws_FnStoreFree.j0 k t208 t211 true)) = some r := H
      have A9 := Aside0.mk A90
      clear A90
      by_cases c10 : t211 = t212
      · rw [if_pos c10] at H
        have c10b0 : (t211 == t212) = true := beq_iff_eq.mpr c10
        have c10b1 : (t211 != t212) = false := bne_eq_false_iff_eq.mpr c10
        clear c10
        (first | rw [c10b0] | (simp only [i64_w, i32_w]; rw [c10b0]) | skip)
        replace H := Option.bind_eq_some_iff.mp H
        obtain ⟨t213, A110, H⟩ := H
        replace H : (laws_FnStoreFree.j0 k t208 t211 (!t213)) = some r := H
        have A11 := Aside0.mk A110
        clear A110
        have H' := Aside0.mk H
        clear H
        go_wp2_with (first | (go_at_call 24; (with_reducible refine (spec_StoreFree.calls k _ _ t208 t212 _ ?side1 ?side2 A9.out).mono ?_); (case side1 => repeat (first | exact (Kd.Q_reads' HO210.out).2.2 | (with_reducible refine Kd.C_alloc ?_ _) | (with_reducible refine Kd.C_drewN ?_ _) | (with_reducible refine Kd.C_drew ?_))); (case side2 => exact (Kd.Q_reads' HO210.out).2.1); rintro e w12 ⟨rfl, hb⟩; have n0_ := Aside0.mk (Kd.Q_below (by (with_reducible repeat (first | apply Kd.Q_alloc | apply Kd.Q_drewN | apply Kd.Q_drew)); exact HO210.out) hb); have n1_ := Aside0.mk (below_step (by repeat (first | (with_reducible first | exact HB.out | apply below_alloc | apply pw_below_drewN | apply below_drew1) | exact HB.out)) hb); clear HO210; clear HB; have HO210 := n0_; have HB := n1_; clear n0_ n1_; (try clear hb); (try clear hb2); (try clear hk); (try clear hi)) | (go_at_call 20; (with_reducible refine (spec_StoreOk.calls k _ _ t208 t213 _ ?side1 ?side2 A11.out).mono ?_); (case side1 => repeat (first | exact (Kd.Q_reads' HO210.out).2.2 | (with_reducible refine Kd.C_alloc ?_ _) | (with_reducible refine Kd.C_drewN ?_ _) | (with_reducible refine Kd.C_drew ?_))); (case side2 => exact (Kd.Q_reads' HO210.out).2.1); rintro e w13 ⟨rfl, hb⟩; have n0_ := Aside0.mk (Kd.Q_below (by (with_reducible repeat (first | apply Kd.Q_alloc | apply Kd.Q_drewN | apply Kd.Q_drew)); exact HO210.out) hb); have n1_ := Aside0.mk (below_step (by repeat (first | (with_reducible first | exact HB.out | apply below_alloc | apply pw_below_drewN | apply below_drew1) | exact HB.out)) hb); clear HO210; clear HB; have HO210 := n0_; have HB := n1_; clear n0_ n1_; (try clear hb); (try clear hb2); (try clear hk); (try clear hi)))
        repeat (go_quiet (first | (go_at_call 24; (with_reducible refine (spec_StoreFree.calls k _ _ t208 t212 _ ?side1 ?side2 A9.out).mono ?_); (case side1 => repeat (first | exact (Kd.Q_reads' HO210.out).2.2 | (with_reducible refine Kd.C_alloc ?_ _) | (with_reducible refine Kd.C_drewN ?_ _) | (with_reducible refine Kd.C_drew ?_))); (case side2 => exact (Kd.Q_reads' HO210.out).2.1); rintro e w12 ⟨rfl, hb⟩; have n0_ := Aside0.mk (Kd.Q_below (by (with_reducible repeat (first | apply Kd.Q_alloc | apply Kd.Q_drewN | apply Kd.Q_drew)); exact HO210.out) hb); have n1_ := Aside0.mk (below_step (by repeat (first | (with_reducible first | exact HB.out | apply below_alloc | apply pw_below_drewN | apply below_drew1) | exact HB.out)) hb); clear HO210; clear HB; have HO210 := n0_; have HB := n1_; clear n0_ n1_; (try clear hb); (try clear hb2); (try clear hk); (try clear hi)) | (go_at_call 20; (with_reducible refine (spec_StoreOk.calls k _ _ t208 t213 _ ?side1 ?side2 A11.out).mono ?_); (case side1 => repeat (first | exact (Kd.Q_reads' HO210.out).2.2 | (with_reducible refine Kd.C_alloc ?_ _) | (with_reducible refine Kd.C_drewN ?_ _) | (with_reducible refine Kd.C_drew ?_))); (case side2 => exact (Kd.Q_reads' HO210.out).2.1); rintro e w13 ⟨rfl, hb⟩; have n0_ := Aside0.mk (Kd.Q_below (by (with_reducible repeat (first | apply Kd.Q_alloc | apply Kd.Q_drewN | apply Kd.Q_drew)); exact HO210.out) hb); have n1_ := Aside0.mk (below_step (by repeat (first | (with_reducible first | exact HB.out | apply below_alloc | apply pw_below_drewN | apply below_drew1) | exact HB.out)) hb); clear HO210; clear HB; have HO210 := n0_; have HB := n1_; clear n0_ n1_; (try clear hb); (try clear hb2); (try clear hk); (try clear hi))); try go_wp2_with (first | (go_at_call 24; (with_reducible refine (spec_StoreFree.calls k _ _ t208 t212 _ ?side1 ?side2 A9.out).mono ?_); (case side1 => repeat (first | exact (Kd.Q_reads' HO210.out).2.2 | (with_reducible refine Kd.C_alloc ?_ _) | (with_reducible refine Kd.C_drewN ?_ _) | (with_reducible refine Kd.C_drew ?_))); (case side2 => exact (Kd.Q_reads' HO210.out).2.1); rintro e w12 ⟨rfl, hb⟩; have n0_ := Aside0.mk (Kd.Q_below (by (with_reducible repeat (first | apply Kd.Q_alloc | apply Kd.Q_drewN | apply Kd.Q_drew)); exact HO210.out) hb); have n1_ := Aside0.mk (below_step (by repeat (first | (with_reducible first | exact HB.out | apply below_alloc | apply pw_below_drewN | apply below_drew1) | exact HB.out)) hb); clear HO210; clear HB; have HO210 := n0_; have HB := n1_; clear n0_ n1_; (try clear hb); (try clear hb2); (try clear hk); (try clear hi)) | (go_at_call 20; (with_reducible refine (spec_StoreOk.calls k _ _ t208 t213 _ ?side1 ?side2 A11.out).mono ?_); (case side1 => repeat (first | exact (Kd.Q_reads' HO210.out).2.2 | (with_reducible refine Kd.C_alloc ?_ _) | (with_reducible refine Kd.C_drewN ?_ _) | (with_reducible refine Kd.C_drew ?_))); (case side2 => exact (Kd.Q_reads' HO210.out).2.1); rintro e w13 ⟨rfl, hb⟩; have n0_ := Aside0.mk (Kd.Q_below (by (with_reducible repeat (first | apply Kd.Q_alloc | apply Kd.Q_drewN | apply Kd.Q_drew)); exact HO210.out) hb); have n1_ := Aside0.mk (below_step (by repeat (first | (with_reducible first | exact HB.out | apply below_alloc | apply pw_below_drewN | apply below_drew1) | exact HB.out)) hb); clear HO210; clear HB; have HO210 := n0_; have HB := n1_; clear n0_ n1_; (try clear hb); (try clear hb2); (try clear hk); (try clear hi))))
        go_meet
        case rel => exact ⟨_, (!t213), (by first | rfl | (simp; done) | (simp [*]; done) | (simp; first | exact Go.Proofs.YtjdkccpcgmgmmaaB.bne1 _ _ | exact Go.Proofs.YtjdkccpcgmgmmaaB.bne2 _ _ | exact Go.Proofs.YtjdkccpcgmgmmaaB.bne3 _ _ | exact Go.Proofs.YtjdkccpcgmgmmaaB.bne4 _ _ | exact Go.Proofs.YtjdkccpcgmgmmaaB.emp1 _ | exact Go.Proofs.YtjdkccpcgmgmmaaB.emp2 _ | exact Go.Proofs.YtjdkccpcgmgmmaaB.emp3 _)), H', ⟨by first | omega | exact Nat.le_refl _⟩, ⟨by (with_reducible repeat (first | apply Kd.Q_alloc | apply Kd.Q_drewN | apply Kd.Q_drew)); exact HO210.out⟩, ⟨by repeat (first | (with_reducible first | exact HB.out | apply below_alloc | apply pw_below_drewN | apply below_drew1) | exact HB.out)⟩⟩
      · rw [if_neg c10] at H
        have c10b0 : (t211 == t212) = false := beq_eq_false_iff_ne.mpr c10
        have c10b1 : (t211 != t212) = true := bne_iff_ne.mpr c10
        (first | rw [c10b0] | (simp only [i64_w, i32_w]; rw [c10b0]) | skip)
        have H' := Aside0.mk H
        clear H
        go_wp2_with (first | (go_at_call 24; (with_reducible refine (spec_StoreFree.calls k _ _ t208 t212 _ ?side1 ?side2 A9.out).mono ?_); (case side1 => repeat (first | exact (Kd.Q_reads' HO210.out).2.2 | (with_reducible refine Kd.C_alloc ?_ _) | (with_reducible refine Kd.C_drewN ?_ _) | (with_reducible refine Kd.C_drew ?_))); (case side2 => exact (Kd.Q_reads' HO210.out).2.1); rintro e w14 ⟨rfl, hb⟩; have n0_ := Aside0.mk (Kd.Q_below (by (with_reducible repeat (first | apply Kd.Q_alloc | apply Kd.Q_drewN | apply Kd.Q_drew)); exact HO210.out) hb); have n1_ := Aside0.mk (below_step (by repeat (first | (with_reducible first | exact HB.out | apply below_alloc | apply pw_below_drewN | apply below_drew1) | exact HB.out)) hb); clear HO210; clear HB; have HO210 := n0_; have HB := n1_; clear n0_ n1_; (try clear hb); (try clear hb2); (try clear hk); (try clear hi)))
        repeat (go_quiet (first | (go_at_call 24; (with_reducible refine (spec_StoreFree.calls k _ _ t208 t212 _ ?side1 ?side2 A9.out).mono ?_); (case side1 => repeat (first | exact (Kd.Q_reads' HO210.out).2.2 | (with_reducible refine Kd.C_alloc ?_ _) | (with_reducible refine Kd.C_drewN ?_ _) | (with_reducible refine Kd.C_drew ?_))); (case side2 => exact (Kd.Q_reads' HO210.out).2.1); rintro e w14 ⟨rfl, hb⟩; have n0_ := Aside0.mk (Kd.Q_below (by (with_reducible repeat (first | apply Kd.Q_alloc | apply Kd.Q_drewN | apply Kd.Q_drew)); exact HO210.out) hb); have n1_ := Aside0.mk (below_step (by repeat (first | (with_reducible first | exact HB.out | apply below_alloc | apply pw_below_drewN | apply below_drew1) | exact HB.out)) hb); clear HO210; clear HB; have HO210 := n0_; have HB := n1_; clear n0_ n1_; (try clear hb); (try clear hb2); (try clear hk); (try clear hi))); try go_wp2_with (first | (go_at_call 24; (with_reducible refine (spec_StoreFree.calls k _ _ t208 t212 _ ?side1 ?side2 A9.out).mono ?_); (case side1 => repeat (first | exact (Kd.Q_reads' HO210.out).2.2 | (with_reducible refine Kd.C_alloc ?_ _) | (with_reducible refine Kd.C_drewN ?_ _) | (with_reducible refine Kd.C_drew ?_))); (case side2 => exact (Kd.Q_reads' HO210.out).2.1); rintro e w14 ⟨rfl, hb⟩; have n0_ := Aside0.mk (Kd.Q_below (by (with_reducible repeat (first | apply Kd.Q_alloc | apply Kd.Q_drewN | apply Kd.Q_drew)); exact HO210.out) hb); have n1_ := Aside0.mk (below_step (by repeat (first | (with_reducible first | exact HB.out | apply below_alloc | apply pw_below_drewN | apply below_drew1) | exact HB.out)) hb); clear HO210; clear HB; have HO210 := n0_; have HB := n1_; clear n0_ n1_; (try clear hb); (try clear hb2); (try clear hk); (try clear hi))))
        go_meet
        case rel => exact ⟨_, (true), (by first | rfl | (simp; done) | (simp [*]; done) | (simp; first | exact Go.Proofs.YtjdkccpcgmgmmaaB.bne1 _ _ | exact Go.Proofs.YtjdkccpcgmgmmaaB.bne2 _ _ | exact Go.Proofs.YtjdkccpcgmgmmaaB.bne3 _ _ | exact Go.Proofs.YtjdkccpcgmgmmaaB.bne4 _ _ | exact Go.Proofs.YtjdkccpcgmgmmaaB.emp1 _ | exact Go.Proofs.YtjdkccpcgmgmmaaB.emp2 _ | exact Go.Proofs.YtjdkccpcgmgmmaaB.emp3 _)), H', ⟨by first | omega | exact Nat.le_refl _⟩, ⟨by (with_reducible repeat (first | apply Kd.Q_alloc | apply Kd.Q_drewN | apply Kd.Q_drew)); exact HO210.out⟩, ⟨by repeat (first | (with_reducible first | exact HB.out | apply below_alloc | apply pw_below_drewN | apply below_drew1) | exact HB.out)⟩⟩
    case rest =>
      clear HC5
      try clear c1
      try clear c2
      try clear c2b0
      try clear c2b1
      try clear p2
      try clear c7
      try clear c10
      try clear c10b0
      try clear c10b1
      obtain ⟨kq, x23_4, rfl, HA, HJ4, HO_3, HB⟩ := hcut
      cases kq with
      | zero => exact absurd HA.out (by simp [laws_FnStoreFree.j0])
      | succ kj4 =>
        have H := HA.out
        clear HA
        simp only [laws_FnStoreFree.j0] at H
        by_cases c15 : x23_4 = true
        · subst c15
          have H1 : ((spec_StoreFree.f kj4 t208).bind fun t214 => (some (t211 == t214))) = some r := by rw [if_pos rfl] at H; exact H
          clear H
          have H := H1
          clear H1
          replace H := Option.bind_eq_some_iff.mp H
          obtain ⟨t214, A160, H⟩ := H
          replace H : (some (t211 == t214)) = some r := H
          have A16 := Aside0.mk A160
          clear A160
          obtain rfl := Option.some.inj H
          go_wp2_with (first | (go_at_call 24; (with_reducible refine (spec_StoreFree.calls kj4 _ _ t208 t214 _ ?side1 ?side2 A16.out).mono ?_); (case side1 => repeat (first | exact (Kd.Q_reads' HO_3.out).2.2 | (with_reducible refine Kd.C_alloc ?_ _) | (with_reducible refine Kd.C_drewN ?_ _) | (with_reducible refine Kd.C_drew ?_))); (case side2 => exact (Kd.Q_reads' HO_3.out).2.1); rintro e w17 ⟨rfl, hb⟩; have n0_ := Aside0.mk (Kd.Q_below (by (with_reducible repeat (first | apply Kd.Q_alloc | apply Kd.Q_drewN | apply Kd.Q_drew)); exact HO_3.out) hb); have n1_ := Aside0.mk (below_step (by repeat (first | (with_reducible first | exact HB.out | apply below_alloc | apply pw_below_drewN | apply below_drew1) | exact HB.out)) hb); clear HO_3; clear HB; have HO_3 := n0_; have HB := n1_; clear n0_ n1_; (try clear hb); (try clear hb2); (try clear hk); (try clear hi)))
          repeat (go_quiet (first | (go_at_call 24; (with_reducible refine (spec_StoreFree.calls kj4 _ _ t208 t214 _ ?side1 ?side2 A16.out).mono ?_); (case side1 => repeat (first | exact (Kd.Q_reads' HO_3.out).2.2 | (with_reducible refine Kd.C_alloc ?_ _) | (with_reducible refine Kd.C_drewN ?_ _) | (with_reducible refine Kd.C_drew ?_))); (case side2 => exact (Kd.Q_reads' HO_3.out).2.1); rintro e w17 ⟨rfl, hb⟩; have n0_ := Aside0.mk (Kd.Q_below (by (with_reducible repeat (first | apply Kd.Q_alloc | apply Kd.Q_drewN | apply Kd.Q_drew)); exact HO_3.out) hb); have n1_ := Aside0.mk (below_step (by repeat (first | (with_reducible first | exact HB.out | apply below_alloc | apply pw_below_drewN | apply below_drew1) | exact HB.out)) hb); clear HO_3; clear HB; have HO_3 := n0_; have HB := n1_; clear n0_ n1_; (try clear hb); (try clear hb2); (try clear hk); (try clear hi))); try go_wp2_with (first | (go_at_call 24; (with_reducible refine (spec_StoreFree.calls kj4 _ _ t208 t214 _ ?side1 ?side2 A16.out).mono ?_); (case side1 => repeat (first | exact (Kd.Q_reads' HO_3.out).2.2 | (with_reducible refine Kd.C_alloc ?_ _) | (with_reducible refine Kd.C_drewN ?_ _) | (with_reducible refine Kd.C_drew ?_))); (case side2 => exact (Kd.Q_reads' HO_3.out).2.1); rintro e w17 ⟨rfl, hb⟩; have n0_ := Aside0.mk (Kd.Q_below (by (with_reducible repeat (first | apply Kd.Q_alloc | apply Kd.Q_drewN | apply Kd.Q_drew)); exact HO_3.out) hb); have n1_ := Aside0.mk (below_step (by repeat (first | (with_reducible first | exact HB.out | apply below_alloc | apply pw_below_drewN | apply below_drew1) | exact HB.out)) hb); clear HO_3; clear HB; have HO_3 := n0_; have HB := n1_; clear n0_ n1_; (try clear hb); (try clear hb2); (try clear hk); (try clear hi))))
          go_ret
          exact ⟨by first | rfl | (simp [errW_none, errW_some] <;> rfl) | (simp [errW_none, errW_some]; first | exact Go.Proofs.YtjdkccpcgmgmmaaB.emp1 _ | exact Go.Proofs.YtjdkccpcgmgmmaaB.emp2 _ | exact Go.Proofs.YtjdkccpcgmgmmaaB.emp3 _) | (simp [*, errW_none, errW_some] <;> rfl), by repeat (first | (with_reducible first | exact HB.out | apply below_alloc | apply pw_below_drewN | apply below_drew1) | exact HB.out)⟩
        · replace c15 := Bool.eq_false_iff.mpr c15
          subst c15
          have H1 : (laws_FnStoreFree.l0 kj4 t208 t211 0 0) = some r := by rw [if_neg (show ¬ (false = true) by decide)] at H; exact H
          clear H
          have H := H1
          clear H1
          have H' := Aside0.mk H
          clear H
          go_wp2
          repeat (go_quiet (fail); try go_wp2)
          go_loopg [5, 6] kj4 (fun kq v5 v6 w' => ∃ (x5_2 : Int) (x6_2 : Int), v5 = .int .i64 x5_2 ∧ v6 = .int .i64 x6_2 ∧ Aside0 (laws_FnStoreFree.l0 kq t208 t211 x5_2 x6_2 = some r) ∧ Aside0 (kq ≤ kj4) ∧ Aside0 (Kd.Q k36 36 w' w.heap.size (fun _ => True) (.slice Ao7 t208.length co7) t208) ∧ Aside0 (Below w.heap.size w w'))
          case atStart => exact ⟨(0), (0), (by first | rfl | (simp; done) | (simp [*]; done) | (simp; first | exact Go.Proofs.YtjdkccpcgmgmmaaB.bne1 _ _ | exact Go.Proofs.YtjdkccpcgmgmmaaB.bne2 _ _ | exact Go.Proofs.YtjdkccpcgmgmmaaB.bne3 _ _ | exact Go.Proofs.YtjdkccpcgmgmmaaB.bne4 _ _ | exact Go.Proofs.YtjdkccpcgmgmmaaB.emp1 _ | exact Go.Proofs.YtjdkccpcgmgmmaaB.emp2 _ | exact Go.Proofs.YtjdkccpcgmgmmaaB.emp3 _)), (by first | rfl | (simp; done) | (simp [*]; done) | (simp; first | exact Go.Proofs.YtjdkccpcgmgmmaaB.bne1 _ _ | exact Go.Proofs.YtjdkccpcgmgmmaaB.bne2 _ _ | exact Go.Proofs.YtjdkccpcgmgmmaaB.bne3 _ _ | exact Go.Proofs.YtjdkccpcgmgmmaaB.bne4 _ _ | exact Go.Proofs.YtjdkccpcgmgmmaaB.emp1 _ | exact Go.Proofs.YtjdkccpcgmgmmaaB.emp2 _ | exact Go.Proofs.YtjdkccpcgmgmmaaB.emp3 _)), H', ⟨Nat.le_refl _⟩, ⟨by (with_reducible repeat (first | apply Kd.Q_alloc | apply Kd.Q_drewN | apply Kd.Q_drew)); exact HO_3.out⟩, ⟨by repeat (first | (with_reducible first | exact HB.out | apply below_alloc | apply pw_below_drewN | apply below_drew1) | exact HB.out)⟩⟩
          case round =>
            clear H'
            try clear c1
            try clear c2
            try clear c2b0
            try clear c2b1
            try clear p2
            try clear c7
            try clear c10
            try clear c10b0
            try clear c10b1
            try clear c15
            try clear p2
            obtain ⟨x5_2, x6_2, rfl, rfl, HA, HK2, HO_3, HB⟩ := hrel
            cases gk with
            | zero => exact absurd HA.out (by simp [laws_FnStoreFree.l0])
            | succ k2 =>
              have H := HA.out
              clear HA
              simp only [laws_FnStoreFree.l0] at H
              by_cases c18 : x6_2 < (t208.length : Int)
              · rw [if_pos c18] at H
                have c18b0 : decide (x6_2 < (t208.length : Int)) = true := decide_eq_true c18
                clear c18
                by_cases c19 : 0 ≤ x6_2
                · rw [if_pos c19] at H
                  have c19b0 : decide (0 ≤ x6_2) = true := decide_eq_true c19
                  clear c19
                  have HC20 := Aside0.mk H
                  clear H
                  have p219 : 0 ≤ (x6_2 : Int) := of_decide_eq_true (by first | (with_reducible assumption) | assumption)
                  have q219 : x6_2 < (t208.length : Int) := of_decide_eq_true (by first | (with_reducible assumption) | assumption)
                  obtain ⟨ad219, e219, hx219_0, hx219_1⟩ := at_T36 (Kd.Q_reads' HO_3.out).2.2 x6_2 p219 q219
                  cases e219
                  replace p219 := eq_true p219
                  replace q219 := eq_true q219
                  go_upto_if 39 with (fail)
                  repeat (go_quiet (fail); go_upto_if 39 with (fail))
                  go_cut [5] (fun v5 wc => ∃ (kq : Nat) (x5_19 : Int), v5 = .int .i64 x5_19 ∧ Aside0 (laws_FnStoreFree.j2 kq t208 t211 x5_19 x6_2 = some r) ∧ Aside0 (kq ≤ k2) ∧ Aside0 (Kd.Q k36 36 wc w.heap.size (fun _ => True) (.slice (some ad219) t208.length co7) t208) ∧ Aside0 (Below w.heap.size w wc))
                  case first =>
                    have H := HC20.out
                    clear HC20
                    by_cases c21 : ((rd_T36 t208 x6_2).f1) = 0
                    · rw [if_pos c21] at H
                      have c21b0 : (((rd_T36 t208 x6_2).f1) == 0) = true := beq_iff_eq.mpr c21
                      have c21b1 : (((rd_T36 t208 x6_2).f1) != 0) = false := bne_eq_false_iff_eq.mpr c21
                      clear c21
                      (first | rw [c21b0] | (simp only [i64_w, i32_w]; rw [c21b0]) | skip)
                      have H' := Aside0.mk H
                      clear H
                      go_wp2
                      repeat (go_quiet (fail); try go_wp2)
                      go_meet
                      case rel => exact ⟨_, (wrap64 (x5_2 + 1)), (by first | rfl | (simp; done) | (simp [*]; done) | (simp; first | exact Go.Proofs.YtjdkccpcgmgmmaaB.bne1 _ _ | exact Go.Proofs.YtjdkccpcgmgmmaaB.bne2 _ _ | exact Go.Proofs.YtjdkccpcgmgmmaaB.bne3 _ _ | exact Go.Proofs.YtjdkccpcgmgmmaaB.bne4 _ _ | exact Go.Proofs.YtjdkccpcgmgmmaaB.emp1 _ | exact Go.Proofs.YtjdkccpcgmgmmaaB.emp2 _ | exact Go.Proofs.YtjdkccpcgmgmmaaB.emp3 _)), H', ⟨by have := HJ4.out; have := HK2.out; first | omega | exact Nat.le_refl _⟩, ⟨by (with_reducible repeat (first | apply Kd.Q_alloc | apply Kd.Q_drewN | apply Kd.Q_drew)); exact HO_3.out⟩, ⟨by repeat (first | (with_reducible first | exact HB.out | apply below_alloc | apply pw_below_drewN | apply below_drew1) | exact HB.out)⟩⟩
                    · rw [if_neg c21] at H
                      have c21b0 : (((rd_T36 t208 x6_2).f1) == 0) = false := beq_eq_false_iff_ne.mpr c21
                      have c21b1 : (((rd_T36 t208 x6_2).f1) != 0) = true := bne_iff_ne.mpr c21
                      (first | rw [c21b0] | (simp only [i64_w, i32_w]; rw [c21b0]) | skip)
                      have H' := Aside0.mk H
                      clear H
                      go_wp2
                      repeat (go_quiet (fail); try go_wp2)
                      go_meet
                      case rel => exact ⟨_, (x5_2), (by first | rfl | (simp; done) | (simp [*]; done) | (simp; first | exact Go.Proofs.YtjdkccpcgmgmmaaB.bne1 _ _ | exact Go.Proofs.YtjdkccpcgmgmmaaB.bne2 _ _ | exact Go.Proofs.YtjdkccpcgmgmmaaB.bne3 _ _ | exact Go.Proofs.YtjdkccpcgmgmmaaB.bne4 _ _ | exact Go.Proofs.YtjdkccpcgmgmmaaB.emp1 _ | exact Go.Proofs.YtjdkccpcgmgmmaaB.emp2 _ | exact Go.Proofs.YtjdkccpcgmgmmaaB.emp3 _)), H', ⟨by have := HJ4.out; have := HK2.out; first | omega | exact Nat.le_refl _⟩, ⟨by (with_reducible repeat (first | apply Kd.Q_alloc | apply Kd.Q_drewN | apply Kd.Q_drew)); exact HO_3.out⟩, ⟨by repeat (first | (with_reducible first | exact HB.out | apply below_alloc | apply pw_below_drewN | apply below_drew1) | exact HB.out)⟩⟩
                  case rest =>
                    clear HC20
                    try clear c1
                    try clear c2
                    try clear c2b0
                    try clear c2b1
                    try clear p2
                    try clear q2
                    try clear hx2
                    try clear p6
                    try clear c7
                    try clear c10
                    try clear c10b0
                    try clear c10b1
                    try clear c15
                    try clear c18
                    try clear c18b0
                    try clear c19
                    try clear c19b0
                    try clear c21
                    try clear c21b0
                    try clear c21b1
                    try clear p21
                    try clear q21
                    try clear hx21
                    try clear hx219_0
                    try clear hx219_1
                    try clear p2
                    try clear p219
                    try clear q219
                    obtain ⟨kq, x5_19, rfl, HA, HJ19, HO_3, HB⟩ := hcut
                    cases kq with
                    | zero => exact absurd HA.out (by simp [laws_FnStoreFree.j2])
                    | succ kj19 =>
                      have H := HA.out
                      clear HA
                      simp only [laws_FnStoreFree.j2] at H
                      have H' := Aside0.mk H
                      clear H
                      go_wp2
                      repeat (go_quiet (fail); try go_wp2)
                      go_loopg [7] kj19 (fun kq v7 w' => ∃ (x7_4 : Int), v7 = .int .i64 x7_4 ∧ Aside0 (laws_FnStoreFree.l1 kq t208 t211 x5_19 x6_2 x7_4 = some r) ∧ Aside0 (kq ≤ kj19) ∧ Aside0 (Kd.Q k36 36 w' w.heap.size (fun _ => True) (.slice (some ad219) t208.length co7) t208) ∧ Aside0 (Below w.heap.size w w'))
                      case atStart => exact ⟨(0), (by first | rfl | (simp; done) | (simp [*]; done) | (simp; first | exact Go.Proofs.YtjdkccpcgmgmmaaB.bne1 _ _ | exact Go.Proofs.YtjdkccpcgmgmmaaB.bne2 _ _ | exact Go.Proofs.YtjdkccpcgmgmmaaB.bne3 _ _ | exact Go.Proofs.YtjdkccpcgmgmmaaB.bne4 _ _ | exact Go.Proofs.YtjdkccpcgmgmmaaB.emp1 _ | exact Go.Proofs.YtjdkccpcgmgmmaaB.emp2 _ | exact Go.Proofs.YtjdkccpcgmgmmaaB.emp3 _)), H', ⟨Nat.le_refl _⟩, ⟨by (with_reducible repeat (first | apply Kd.Q_alloc | apply Kd.Q_drewN | apply Kd.Q_drew)); exact HO_3.out⟩, ⟨by repeat (first | (with_reducible first | exact HB.out | apply below_alloc | apply pw_below_drewN | apply below_drew1) | exact HB.out)⟩⟩
                      case round =>
                        clear H'
                        try clear c1
                        try clear c2
                        try clear c2b0
                        try clear c2b1
                        try clear p2
                        try clear q2
                        try clear hx2
                        try clear p6
                        try clear c7
                        try clear c10
                        try clear c10b0
                        try clear c10b1
                        try clear c15
                        try clear c18
                        try clear c18b0
                        try clear c19
                        try clear c19b0
                        try clear c21
                        try clear c21b0
                        try clear c21b1
                        try clear p21
                        try clear q21
                        try clear hx21
                        try clear hx219_0
                        try clear hx219_1
                        try clear p2
                        try clear p21
                        try clear p219
                        try clear p6
                        try clear q2
                        try clear q21
                        try clear q219
                        obtain ⟨x7_4, rfl, HA, HK4, HO_3, HB⟩ := hrel
                        cases gk with
                        | zero => exact absurd HA.out (by simp [laws_FnStoreFree.l1])
                        | succ k4 =>
                          have H := HA.out
                          clear HA
                          simp only [laws_FnStoreFree.l1] at H
                          by_cases c22 : x7_4 < x6_2
                          · rw [if_pos c22] at H
                            have c22b0 : decide (x7_4 < x6_2) = true := decide_eq_true c22
                            clear c22
                            by_cases c23 : 0 ≤ x6_2
                            · rw [if_pos c23] at H
                              have c23b0 : decide (0 ≤ x6_2) = true := decide_eq_true c23
                              clear c23
                              by_cases c24 : x6_2 < (t208.length : Int)
                              · rw [if_pos c24] at H
                                have c24b0 : decide (x6_2 < (t208.length : Int)) = true := decide_eq_true c24
                                clear c24
                                by_cases c25 : ((rd_T36 t208 x6_2).f0).toList = ([] : List UInt8)
                                · rw [if_pos c25] at H
                                  have c25b0 : (((rd_T36 t208 x6_2).f0).toList == ([] : List UInt8)) = true := beq_iff_eq.mpr c25
                                  have c25b1 : (((rd_T36 t208 x6_2).f0).toList != ([] : List UInt8)) = false := bne_eq_false_iff_eq.mpr c25
                                  clear c25
                                  have H' := Aside0.mk H
                                  clear H
                                  have p220 : 0 ≤ (x6_2 : Int) := of_decide_eq_true (by first | (with_reducible assumption) | assumption)
                                  have q220 : x6_2 < (t208.length : Int) := of_decide_eq_true (by first | (with_reducible assumption) | assumption)
                                  obtain ⟨ad220, e220, hx220_0, hx220_1⟩ := at_T36 (Kd.Q_reads' HO_3.out).2.2 x6_2 p220 q220
                                  obtain rfl : ad219 = ad220 := (by injection e220)
                                  replace p220 := eq_true p220
                                  replace q220 := eq_true q220
                                  go_wp2
                                  repeat (go_quiet (fail); try go_wp2)
                                  go_roundg k4
                                  case measure => have := HJ4.out; have := HK2.out; have := HJ19.out; have := HK4.out; omega
                                  case rel => exact ⟨(wrap64 (x7_4 + 1)), (by first | rfl | (simp; done) | (simp [*]; done) | (simp; first | exact Go.Proofs.YtjdkccpcgmgmmaaB.bne1 _ _ | exact Go.Proofs.YtjdkccpcgmgmmaaB.bne2 _ _ | exact Go.Proofs.YtjdkccpcgmgmmaaB.bne3 _ _ | exact Go.Proofs.YtjdkccpcgmgmmaaB.bne4 _ _ | exact Go.Proofs.YtjdkccpcgmgmmaaB.emp1 _ | exact Go.Proofs.YtjdkccpcgmgmmaaB.emp2 _ | exact Go.Proofs.YtjdkccpcgmgmmaaB.emp3 _)), H', ⟨by have := HJ4.out; have := HK2.out; have := HJ19.out; have := HK4.out; omega⟩, ⟨by (with_reducible repeat (first | apply Kd.Q_alloc | apply Kd.Q_drewN | apply Kd.Q_drew)); exact HO_3.out⟩, ⟨by repeat (first | (with_reducible first | exact HB.out | apply below_alloc | apply pw_below_drewN | apply below_drew1) | exact HB.out)⟩⟩
                                · rw [if_neg c25] at H
                                  have c25b0 : (((rd_T36 t208 x6_2).f0).toList == ([] : List UInt8)) = false := beq_eq_false_iff_ne.mpr c25
                                  have c25b1 : (((rd_T36 t208 x6_2).f0).toList != ([] : List UInt8)) = true := bne_iff_ne.mpr c25
                                  by_cases c26 : 0 ≤ x7_4
                                  · rw [if_pos c26] at H
                                    have c26b0 : decide (0 ≤ x7_4) = true := decide_eq_true c26
                                    clear c26
                                    by_cases c27 : x7_4 < (t208.length : Int)
                                    · rw [if_pos c27] at H
                                      have c27b0 : decide (x7_4 < (t208.length : Int)) = true := decide_eq_true c27
                                      clear c27
                                      by_cases c28 : ((rd_T36 t208 x6_2).f0).toList = ((rd_T36 t208 x7_4).f0).toList
                                      · rw [if_pos c28] at H
                                        have c28b0 : (((rd_T36 t208 x6_2).f0).toList == ((rd_T36 t208 x7_4).f0).toList) = true := beq_iff_eq.mpr c28
                                        have c28b1 : (((rd_T36 t208 x6_2).f0).toList != ((rd_T36 t208 x7_4).f0).toList) = false := bne_eq_false_iff_eq.mpr c28
                                        clear c28
                                        obtain rfl := Option.some.inj H
                                        have p220 : 0 ≤ (x6_2 : Int) := of_decide_eq_true (by first | (with_reducible assumption) | assumption)
                                        have q220 : x6_2 < (t208.length : Int) := of_decide_eq_true (by first | (with_reducible assumption) | assumption)
                                        obtain ⟨ad220, e220, hx220_0, hx220_1⟩ := at_T36 (Kd.Q_reads' HO_3.out).2.2 x6_2 p220 q220
                                        obtain rfl : ad219 = ad220 := (by injection e220)
                                        replace p220 := eq_true p220
                                        replace q220 := eq_true q220
                                        have p221 : 0 ≤ (x6_2 : Int) := of_decide_eq_true (by first | (with_reducible assumption) | assumption)
                                        have q221 : x6_2 < (t208.length : Int) := of_decide_eq_true (by first | (with_reducible assumption) | assumption)
                                        obtain ⟨ad221, e221, hx221_0, hx221_1⟩ := at_T36 (Kd.Q_reads' HO_3.out).2.2 x6_2 p221 q221
                                        obtain rfl : ad219 = ad221 := (by injection e221)
                                        replace p221 := eq_true p221
                                        replace q221 := eq_true q221
                                        have p222 : 0 ≤ (x7_4 : Int) := of_decide_eq_true (by first | (with_reducible assumption) | assumption)
                                        have q222 : x7_4 < (t208.length : Int) := of_decide_eq_true (by first | (with_reducible assumption) | assumption)
                                        obtain ⟨ad222, e222, hx222_0, hx222_1⟩ := at_T36 (Kd.Q_reads' HO_3.out).2.2 x7_4 p222 q222
                                        obtain rfl : ad219 = ad222 := (by injection e222)
                                        replace p222 := eq_true p222
                                        replace q222 := eq_true q222
                                        go_wp2
                                        repeat (go_quiet (fail); try go_wp2)
                                        go_ret
                                        exact ⟨by first | rfl | (simp [errW_none, errW_some] <;> rfl) | (simp [errW_none, errW_some]; first | exact Go.Proofs.YtjdkccpcgmgmmaaB.emp1 _ | exact Go.Proofs.YtjdkccpcgmgmmaaB.emp2 _ | exact Go.Proofs.YtjdkccpcgmgmmaaB.emp3 _) | (simp [*, errW_none, errW_some] <;> rfl), by repeat (first | (with_reducible first | exact HB.out | apply below_alloc | apply pw_below_drewN | apply below_drew1) | exact HB.out)⟩
                                      · rw [if_neg c28] at H
                                        have c28b0 : (((rd_T36 t208 x6_2).f0).toList == ((rd_T36 t208 x7_4).f0).toList) = false := beq_eq_false_iff_ne.mpr c28
                                        have c28b1 : (((rd_T36 t208 x6_2).f0).toList != ((rd_T36 t208 x7_4).f0).toList) = true := bne_iff_ne.mpr c28
                                        have H' := Aside0.mk H
                                        clear H
                                        have p220 : 0 ≤ (x6_2 : Int) := of_decide_eq_true (by first | (with_reducible assumption) | assumption)
                                        have q220 : x6_2 < (t208.length : Int) := of_decide_eq_true (by first | (with_reducible assumption) | assumption)
                                        obtain ⟨ad220, e220, hx220_0, hx220_1⟩ := at_T36 (Kd.Q_reads' HO_3.out).2.2 x6_2 p220 q220
                                        obtain rfl : ad219 = ad220 := (by injection e220)
                                        replace p220 := eq_true p220
                                        replace q220 := eq_true q220
                                        have p221 : 0 ≤ (x6_2 : Int) := of_decide_eq_true (by first | (with_reducible assumption) | assumption)
                                        have q221 : x6_2 < (t208.length : Int) := of_decide_eq_true (by first | (with_reducible assumption) | assumption)
                                        obtain ⟨ad221, e221, hx221_0, hx221_1⟩ := at_T36 (Kd.Q_reads' HO_3.out).2.2 x6_2 p221 q221
                                        obtain rfl : ad219 = ad221 := (by injection e221)
                                        replace p221 := eq_true p221
                                        replace q221 := eq_true q221
                                        have p222 : 0 ≤ (x7_4 : Int) := of_decide_eq_true (by first | (with_reducible assumption) | assumption)
                                        have q222 : x7_4 < (t208.length : Int) := of_decide_eq_true (by first | (with_reducible assumption) | assumption)
                                        obtain ⟨ad222, e222, hx222_0, hx222_1⟩ := at_T36 (Kd.Q_reads' HO_3.out).2.2 x7_4 p222 q222
                                        obtain rfl : ad219 = ad222 := (by injection e222)
                                        replace p222 := eq_true p222
                                        replace q222 := eq_true q222
                                        go_wp2
                                        repeat (go_quiet (fail); try go_wp2)
                                        go_roundg k4
                                        case measure => have := HJ4.out; have := HK2.out; have := HJ19.out; have := HK4.out; omega
                                        case rel => exact ⟨(wrap64 (x7_4 + 1)), (by first | rfl | (simp; done) | (simp [*]; done) | (simp; first | exact Go.Proofs.YtjdkccpcgmgmmaaB.bne1 _ _ | exact Go.Proofs.YtjdkccpcgmgmmaaB.bne2 _ _ | exact Go.Proofs.YtjdkccpcgmgmmaaB.bne3 _ _ | exact Go.Proofs.YtjdkccpcgmgmmaaB.bne4 _ _ | exact Go.Proofs.YtjdkccpcgmgmmaaB.emp1 _ | exact Go.Proofs.YtjdkccpcgmgmmaaB.emp2 _ | exact Go.Proofs.YtjdkccpcgmgmmaaB.emp3 _)), H', ⟨by have := HJ4.out; have := HK2.out; have := HJ19.out; have := HK4.out; omega⟩, ⟨by (with_reducible repeat (first | apply Kd.Q_alloc | apply Kd.Q_drewN | apply Kd.Q_drew)); exact HO_3.out⟩, ⟨by repeat (first | (with_reducible first | exact HB.out | apply below_alloc | apply pw_below_drewN | apply below_drew1) | exact HB.out)⟩⟩
                                    · rw [if_neg c27] at H
                                      exact absurd H (by simp)
                                  · rw [if_neg c26] at H
                                    exact absurd H (by simp)
                              · rw [if_neg c24] at H
                                exact absurd H (by simp)
                            · rw [if_neg c23] at H
                              exact absurd H (by simp)
                          · rw [if_neg c22] at H
                            have c22b0 : decide (x7_4 < x6_2) = false := decide_eq_false c22
                            clear c22
                            have H' := Aside0.mk H
                            clear H
                            go_wp2
                            repeat (go_quiet (fail); try go_wp2)
                            go_roundg k4
                            case measure => have := HJ4.out; have := HK2.out; have := HJ19.out; have := HK4.out; omega
                            case rel => exact ⟨(x5_19), (wrap64 (x6_2 + 1)), (by first | rfl | (simp; done) | (simp [*]; done) | (simp; first | exact Go.Proofs.YtjdkccpcgmgmmaaB.bne1 _ _ | exact Go.Proofs.YtjdkccpcgmgmmaaB.bne2 _ _ | exact Go.Proofs.YtjdkccpcgmgmmaaB.bne3 _ _ | exact Go.Proofs.YtjdkccpcgmgmmaaB.bne4 _ _ | exact Go.Proofs.YtjdkccpcgmgmmaaB.emp1 _ | exact Go.Proofs.YtjdkccpcgmgmmaaB.emp2 _ | exact Go.Proofs.YtjdkccpcgmgmmaaB.emp3 _)), (by first | rfl | (simp; done) | (simp [*]; done) | (simp; first | exact Go.Proofs.YtjdkccpcgmgmmaaB.bne1 _ _ | exact Go.Proofs.YtjdkccpcgmgmmaaB.bne2 _ _ | exact Go.Proofs.YtjdkccpcgmgmmaaB.bne3 _ _ | exact Go.Proofs.YtjdkccpcgmgmmaaB.bne4 _ _ | exact Go.Proofs.YtjdkccpcgmgmmaaB.emp1 _ | exact Go.Proofs.YtjdkccpcgmgmmaaB.emp2 _ | exact Go.Proofs.YtjdkccpcgmgmmaaB.emp3 _)), H', ⟨by have := HJ4.out; have := HK2.out; have := HJ19.out; have := HK4.out; omega⟩, ⟨by (with_reducible repeat (first | apply Kd.Q_alloc | apply Kd.Q_drewN | apply Kd.Q_drew)); exact HO_3.out⟩, ⟨by repeat (first | (with_reducible first | exact HB.out | apply below_alloc | apply pw_below_drewN | apply below_drew1) | exact HB.out)⟩⟩
                · rw [if_neg c19] at H
                  exact absurd H (by simp)
              · rw [if_neg c18] at H
                have c18b0 : decide (x6_2 < (t208.length : Int)) = false := decide_eq_false c18
                clear c18
                by_cases c29 : t211 = x5_2
                · rw [if_pos c29] at H
                  have c29b0 : (t211 == x5_2) = true := beq_iff_eq.mpr c29
                  have c29b1 : (t211 != x5_2) = false := bne_eq_false_iff_eq.mpr c29
                  clear c29
                  replace H := Option.bind_eq_some_iff.mp H
                  obtain ⟨t215, A300, H⟩ := H
                  replace H : ((impl_StoreFree.f k2 t215).bind fun t218 => (some (t218 == 8))) = some r := H
                  have A30 := Aside0.mk A300
                  clear A300
                  replace H := Option.bind_eq_some_iff.mp H
                  obtain ⟨t218, A310, H⟩ := H
                  replace H : (some (t218 == 8)) = some r := H
                  have A31 := Aside0.mk A310
                  clear A310
                  obtain rfl := Option.some.inj H
                  go_wp2_with (first | (go_at_call 30; (with_reducible refine (impl_StoreNew.calls  t215 _ A30.out).mono ?_); rintro e w32 ⟨v216, rfl, ho0, hb⟩; have n0_ := Aside0.mk (Kd.Q_elder' (by (with_reducible repeat (first | apply Kd.Q_alloc | apply Kd.Q_drewN | apply Kd.Q_drew)); exact HO_3.out) (Kd.R_base ho0) hb); have n1_ := Aside0.mk (Kd.R_lower (Kd.R_new' ho0 (Kd.Q_lt (by (with_reducible repeat (first | apply Kd.Q_alloc | apply Kd.Q_drewN | apply Kd.Q_drew)); exact HO_3.out))) (below_size (by repeat (first | (with_reducible first | exact HB.out | apply below_alloc | apply pw_below_drewN | apply below_drew1) | exact HB.out)))); have n2_ := Aside0.mk (below_step (by repeat (first | (with_reducible first | exact HB.out | apply below_alloc | apply pw_below_drewN | apply below_drew1) | exact HB.out)) hb); clear HO_3; clear HB; have HO_3 := n0_; have HO217 := n1_; have HB := n2_; clear n0_ n1_ n2_; (try clear hb); (try clear hb2); (try clear hk); (try clear hi); (try clear ho0); obtain ⟨Ao33, co33, eo33⟩ := Kd.R_slice HO217.out; subst eo33) | (go_at_call 25; (with_reducible refine (impl_StoreFree.calls k2 _ _ t215 t218 _ ?side1 ?side2 A31.out).mono ?_); (case side1 => repeat (first | exact (Kd.R_reads' HO217.out).2.2 | (with_reducible refine Kd.C_alloc ?_ _) | (with_reducible refine Kd.C_drewN ?_ _) | (with_reducible refine Kd.C_drew ?_))); (case side2 => exact (Kd.R_reads' HO217.out).2.1); rintro e w34 ⟨rfl, hb⟩; have n0_ := Aside0.mk (Kd.Q_below (by (with_reducible repeat (first | apply Kd.Q_alloc | apply Kd.Q_drewN | apply Kd.Q_drew)); exact HO_3.out) hb); have n1_ := Aside0.mk (Kd.R_below (by (with_reducible repeat (first | apply Kd.R_alloc | apply Kd.R_drewN | apply Kd.R_drew)); exact HO217.out) hb); have n2_ := Aside0.mk (below_step (by repeat (first | (with_reducible first | exact HB.out | apply below_alloc | apply pw_below_drewN | apply below_drew1) | exact HB.out)) hb); clear HO_3; clear HO217; clear HB; have HO_3 := n0_; have HO217 := n1_; have HB := n2_; clear n0_ n1_ n2_; (try clear hb); (try clear hb2); (try clear hk); (try clear hi)))
                  repeat (go_quiet (first | (go_at_call 30; (with_reducible refine (impl_StoreNew.calls  t215 _ A30.out).mono ?_); rintro e w32 ⟨v216, rfl, ho0, hb⟩; have n0_ := Aside0.mk (Kd.Q_elder' (by (with_reducible repeat (first | apply Kd.Q_alloc | apply Kd.Q_drewN | apply Kd.Q_drew)); exact HO_3.out) (Kd.R_base ho0) hb); have n1_ := Aside0.mk (Kd.R_lower (Kd.R_new' ho0 (Kd.Q_lt (by (with_reducible repeat (first | apply Kd.Q_alloc | apply Kd.Q_drewN | apply Kd.Q_drew)); exact HO_3.out))) (below_size (by repeat (first | (with_reducible first | exact HB.out | apply below_alloc | apply pw_below_drewN | apply below_drew1) | exact HB.out)))); have n2_ := Aside0.mk (below_step (by repeat (first | (with_reducible first | exact HB.out | apply below_alloc | apply pw_below_drewN | apply below_drew1) | exact HB.out)) hb); clear HO_3; clear HB; have HO_3 := n0_; have HO217 := n1_; have HB := n2_; clear n0_ n1_ n2_; (try clear hb); (try clear hb2); (try clear hk); (try clear hi); (try clear ho0); obtain ⟨Ao33, co33, eo33⟩ := Kd.R_slice HO217.out; subst eo33) | (go_at_call 25; (with_reducible refine (impl_StoreFree.calls k2 _ _ t215 t218 _ ?side1 ?side2 A31.out).mono ?_); (case side1 => repeat (first | exact (Kd.R_reads' HO217.out).2.2 | (with_reducible refine Kd.C_alloc ?_ _) | (with_reducible refine Kd.C_drewN ?_ _) | (with_reducible refine Kd.C_drew ?_))); (case side2 => exact (Kd.R_reads' HO217.out).2.1); rintro e w34 ⟨rfl, hb⟩; have n0_ := Aside0.mk (Kd.Q_below (by (with_reducible repeat (first | apply Kd.Q_alloc | apply Kd.Q_drewN | apply Kd.Q_drew)); exact HO_3.out) hb); have n1_ := Aside0.mk (Kd.R_below (by (with_reducible repeat (first | apply Kd.R_alloc | apply Kd.R_drewN | apply Kd.R_drew)); exact HO217.out) hb); have n2_ := Aside0.mk (below_step (by repeat (first | (with_reducible first | exact HB.out | apply below_alloc | apply pw_below_drewN | apply below_drew1) | exact HB.out)) hb); clear HO_3; clear HO217; clear HB; have HO_3 := n0_; have HO217 := n1_; have HB := n2_; clear n0_ n1_ n2_; (try clear hb); (try clear hb2); (try clear hk); (try clear hi))); try go_wp2_with (first | (go_at_call 30; (with_reducible refine (impl_StoreNew.calls  t215 _ A30.out).mono ?_); rintro e w32 ⟨v216, rfl, ho0, hb⟩; have n0_ := Aside0.mk (Kd.Q_elder' (by (with_reducible repeat (first | apply Kd.Q_alloc | apply Kd.Q_drewN | apply Kd.Q_drew)); exact HO_3.out) (Kd.R_base ho0) hb); have n1_ := Aside0.mk (Kd.R_lower (Kd.R_new' ho0 (Kd.Q_lt (by (with_reducible repeat (first | apply Kd.Q_alloc | apply Kd.Q_drewN | apply Kd.Q_drew)); exact HO_3.out))) (below_size (by repeat (first | (with_reducible first | exact HB.out | apply below_alloc | apply pw_below_drewN | apply below_drew1) | exact HB.out)))); have n2_ := Aside0.mk (below_step (by repeat (first | (with_reducible first | exact HB.out | apply below_alloc | apply pw_below_drewN | apply below_drew1) | exact HB.out)) hb); clear HO_3; clear HB; have HO_3 := n0_; have HO217 := n1_; have HB := n2_; clear n0_ n1_ n2_; (try clear hb); (try clear hb2); (try clear hk); (try clear hi); (try clear ho0); obtain ⟨Ao33, co33, eo33⟩ := Kd.R_slice HO217.out; subst eo33) | (go_at_call 25; (with_reducible refine (impl_StoreFree.calls k2 _ _ t215 t218 _ ?side1 ?side2 A31.out).mono ?_); (case side1 => repeat (first | exact (Kd.R_reads' HO217.out).2.2 | (with_reducible refine Kd.C_alloc ?_ _) | (with_reducible refine Kd.C_drewN ?_ _) | (with_reducible refine Kd.C_drew ?_))); (case side2 => exact (Kd.R_reads' HO217.out).2.1); rintro e w34 ⟨rfl, hb⟩; have n0_ := Aside0.mk (Kd.Q_below (by (with_reducible repeat (first | apply Kd.Q_alloc | apply Kd.Q_drewN | apply Kd.Q_drew)); exact HO_3.out) hb); have n1_ := Aside0.mk (Kd.R_below (by (with_reducible repeat (first | apply Kd.R_alloc | apply Kd.R_drewN | apply Kd.R_drew)); exact HO217.out) hb); have n2_ := Aside0.mk (below_step (by repeat (first | (with_reducible first | exact HB.out | apply below_alloc | apply pw_below_drewN | apply below_drew1) | exact HB.out)) hb); clear HO_3; clear HO217; clear HB; have HO_3 := n0_; have HO217 := n1_; have HB := n2_; clear n0_ n1_ n2_; (try clear hb); (try clear hb2); (try clear hk); (try clear hi))))
                  go_ret
                  exact ⟨by first | rfl | (simp [errW_none, errW_some] <;> rfl) | (simp [errW_none, errW_some]; first | exact Go.Proofs.YtjdkccpcgmgmmaaB.emp1 _ | exact Go.Proofs.YtjdkccpcgmgmmaaB.emp2 _ | exact Go.Proofs.YtjdkccpcgmgmmaaB.emp3 _) | (simp [*, errW_none, errW_some] <;> rfl), by repeat (first | (with_reducible first | exact HB.out | apply below_alloc | apply pw_below_drewN | apply below_drew1) | exact HB.out)⟩
                · rw [if_neg c29] at H
                  have c29b0 : (t211 == x5_2) = false := beq_eq_false_iff_ne.mpr c29
                  have c29b1 : (t211 != x5_2) = true := bne_iff_ne.mpr c29
                  obtain rfl := Option.some.inj H
                  go_wp2
                  repeat (go_quiet (fail); try go_wp2)
                  go_ret
                  exact ⟨by first | rfl | (simp [errW_none, errW_some] <;> rfl) | (simp [errW_none, errW_some]; first | exact Go.Proofs.YtjdkccpcgmgmmaaB.emp1 _ | exact Go.Proofs.YtjdkccpcgmgmmaaB.emp2 _ | exact Go.Proofs.YtjdkccpcgmgmmaaB.emp3 _) | (simp [*, errW_none, errW_some] <;> rfl), by repeat (first | (with_reducible first | exact HB.out | apply below_alloc | apply pw_below_drewN | apply below_drew1) | exact HB.out)⟩

/-- THE ONE PURE STATEMENT of laws_FnStoreFree: yours. -/
def laws_FnStoreFree.Pure : Prop := ∀ (l0 : List Int), l0.length ≤ maxLen → l0.length * 1 ≤ 140737488351232 → (∀ x ∈ l0, (Lit.int .u8 x).wf = true) → ∃ k, laws_FnStoreFree.f k l0 = some true
theorem laws_FnStoreFree.walk (P : laws_FnStoreFree.Pure) (a0 : Option Addr) (len0 cap0 : Nat) (z0 : List Int) (w : World) (w0 : (a0 = none ∧ len0 = 0 ∧ cap0 = 0 ∧ z0 = []) ∨ ∃ x, a0 = some x ∧ len0 ≤ cap0 ∧ cap0 ≤ maxLen ∧ z0.length = cap0 ∧ (∀ i, i < z0.length → w.cell? (x.add i) = some (.int .u8 (z0.getD i 0))) ∧ ∀ n ∈ z0, (Lit.int .u8 n).wf = true) (y0 : len0 * 1 ≤ 140737488351232) :
    Calls Try.prog 7 #[.slice a0 len0 cap0] w fun e w' => e = .returned (.bool true) ∧ Below w.heap.size w w' := by
  obtain ⟨l0, rfl, hr0, hm0, hw0, hc0⟩ := ReadsInt.ofRowC w0
  obtain ⟨k, h⟩ := P l0 hm0 y0 hw0
  refine (laws_FnStoreFree.calls k _ _ l0 true w (Kd.C_of_reads (d := (0 : Int)) (h1 := fun _ => rfl) hr0) hc0 h).mono ?_
  rintro e w' ⟨rfl, hd⟩
  exact ⟨rfl, hd⟩

end Go.Proofs.Ytjdkccpcgmgmmaa.PFnStoreFree
