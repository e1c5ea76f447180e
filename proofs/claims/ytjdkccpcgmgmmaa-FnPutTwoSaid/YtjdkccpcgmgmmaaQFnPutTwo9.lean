/- The walk: each function that the law comes to as a plain Lean function, and a proof that the Go code answers so. Written by this session's program over the kit's printer. -/
import Derived.Test.YtjdkccpcgmgmmaaQFnPutTwo0
import Derived.Test.YtjdkccpcgmgmmaaQFnPutTwo2
import Derived.Test.YtjdkccpcgmgmmaaQFnPutTwo5
import Derived.Test.YtjdkccpcgmgmmaaQFnPutTwo6
import Derived.Test.YtjdkccpcgmgmmaaQFnPutTwo8
namespace Go.Proofs.Ytjdkccpcgmgmmaa.PFnPutTwo
open Go.RowKit Go.Proofs.YtjdkccpcgmgmmaaW.PrintWords Go.Proofs.YtjdkccpcgmgmmaaW.PrintLast Go.Proofs.YtjdkccpcgmgmmaaW.PrintMore
attribute [local go_sem] max2_int min2_int max_two min_two max_three min_three max_four min_four   -- for this text's walks alone
set_option linter.unusedVariables false
set_option linter.unusedSimpArgs false

/-! ### laws_FnPutTwo: function 17 -/
mutual
def laws_FnPutTwo.j0 : Nat → List Int → List Int → Bool → Option (Bool)
  | 0, _, _, _ => none
  | k + 1, x0, x1, x28 => if x28 = true then (some true) else ((spec_DrawStorePut.f k x0).bind fun bt259 => ((spec_StorePut.f k bt259.1 bt259.2).bind fun bt263 => ((impl_StorePut.f k bt259.1 bt259.2).bind fun bt268 => (if (bt268.2.2 != bt263.2.2) = true then (laws_FnPutTwo.j1 k x1 bt259.2 bt263.1 bt263.2.1 bt263.2.2 bt268.1 bt268.2.1 bt268.2.2 true) else (if bt268.2.1 = bt263.2.1 then ((laws_lgSlots.f k bt268.1 bt263.1).bind fun t273 => (if t273 = true then (laws_FnPutTwo.j1 k x1 bt259.2 bt263.1 bt263.2.1 bt263.2.2 bt268.1 bt268.2.1 bt268.2.2 (!bt268.2.2)) else (laws_FnPutTwo.j1 k x1 bt259.2 bt263.1 bt263.2.1 bt263.2.2 bt268.1 bt268.2.1 bt268.2.2 true))) else (laws_FnPutTwo.j1 k x1 bt259.2 bt263.1 bt263.2.1 bt263.2.2 bt268.1 bt268.2.1 bt268.2.2 true))))))
def laws_FnPutTwo.j1 : Nat → List Int → ByteArray → List (S36) → Int → Bool → List (S36) → Int → Bool → Bool → Option (Bool)
  | 0, _, _, _, _, _, _, _, _, _ => none
  | k + 1, x1, x6, x7, x8, x9, x10, x11, x12, x65 => if x65 = true then (if (x12 == x9) = true then (if x11 = x8 then ((laws_lgSlots.f k x10 x7).bind fun t274 => (some t274)) else (some false)) else (some false)) else ((some (([(⟨#[97]⟩ : ByteArray), (⟨#[97, 98]⟩ : ByteArray), (⟨#[99, 99]⟩ : ByteArray), (⟨#[100, 100, 97]⟩ : ByteArray), (⟨#[98]⟩ : ByteArray)] : List ByteArray) : List ByteArray)).bind fun y275 => (if 0 ≤ ((x1.length : Int) % 5) then (if ((x1.length : Int) % 5) < (y275.length : Int) then ((impl_StorePut.f k x10 (rdOf ByteArray.empty y275 ((x1.length : Int) % 5))).bind fun bt279 => (if bt279.2.2 = true then ((impl_StoreFind.f k bt279.1 x6).bind fun bt284 => ((impl_StoreFind.f k bt279.1 (rdOf ByteArray.empty y275 ((x1.length : Int) % 5))).bind fun bt286 => (if bt284.2 = true then (if bt286.2 = true then (if bt284.1 = x11 then (if bt286.1 = bt279.2.1 then (if ((bt284.1 == bt286.1) == (x6.toList == (rdOf ByteArray.empty y275 ((x1.length : Int) % 5)).toList)) = true then ((impl_StoreOk.f k bt279.1).bind fun t288 => (some t288)) else (some false)) else (some false)) else (some false)) else (some false)) else (some false)))) else ((impl_StoreFree.f k x10).bind fun t289 => (if t289 = 0 then ((laws_lgSlots.f k bt279.1 x10).bind fun t290 => (some t290)) else (some false))))) else (none)) else (none)))
end
def laws_FnPutTwo.f (k : Nat) (l0 : List Int) (l1 : List Int) : Option (Bool) := if (l0.length : Int) > 1048576 then (laws_FnPutTwo.j0 k l0 l1 true) else (laws_FnPutTwo.j0 k l0 l1 (decide ((l1.length : Int) > 1048576)))
theorem laws_FnPutTwo.mono_l : ∀ k, (∀ y0 y1 y2, LeO (laws_FnPutTwo.j0 k y0 y1 y2) (laws_FnPutTwo.j0 (k + 1) y0 y1 y2)) ∧ (∀ y0 y1 y2 y3 y4 y5 y6 y7 y8, LeO (laws_FnPutTwo.j1 k y0 y1 y2 y3 y4 y5 y6 y7 y8) (laws_FnPutTwo.j1 (k + 1) y0 y1 y2 y3 y4 y5 y6 y7 y8))
  | 0 => ⟨fun _ _ _ r h => by simp [laws_FnPutTwo.j0] at h, fun _ _ _ _ _ _ _ _ _ r h => by simp [laws_FnPutTwo.j1] at h⟩
  | k + 1 => by
    obtain ⟨ih0, ih1⟩ := laws_FnPutTwo.mono_l k
    refine ⟨?_, ?_⟩
    · intro y0 y1 y2
      unfold laws_FnPutTwo.j0
      repeat' first
      | (with_reducible exact ih0 _ _ _)
      | (with_reducible exact ih1 _ _ _ _ _ _ _ _ _)
      | (with_reducible exact impl_StoreFind.mono _ _ _)
      | (with_reducible exact impl_StoreFree.mono _ _)
      | (with_reducible exact impl_StoreOk.mono _ _)
      | (with_reducible exact impl_StorePut.mono _ _ _)
      | (with_reducible exact laws_lgSlots.mono _ _ _)
      | (with_reducible exact spec_DrawStorePut.mono _ _)
      | (with_reducible exact spec_StorePut.mono _ _ _)
      | (with_reducible exact LeO.refl _)
      | (with_reducible exact LeO.none _)
      | (with_reducible refine LeO.ite ?_ ?_)
      | (with_reducible refine LeO.bind ?_ (fun _ => ?_))
      | exact ih0 _ _ _
      | exact ih1 _ _ _ _ _ _ _ _ _
      | exact impl_StoreFind.mono _ _ _
      | exact impl_StoreFree.mono _ _
      | exact impl_StoreOk.mono _ _
      | exact impl_StorePut.mono _ _ _
      | exact laws_lgSlots.mono _ _ _
      | exact spec_DrawStorePut.mono _ _
      | exact spec_StorePut.mono _ _ _
      | exact LeO.none _
      | refine LeO.ite ?_ ?_
      | refine LeO.bind ?_ (fun _ => ?_)
    · intro y0 y1 y2 y3 y4 y5 y6 y7 y8
      unfold laws_FnPutTwo.j1
      repeat' first
      | (with_reducible exact ih0 _ _ _)
      | (with_reducible exact ih1 _ _ _ _ _ _ _ _ _)
      | (with_reducible exact impl_StoreFind.mono _ _ _)
      | (with_reducible exact impl_StoreFree.mono _ _)
      | (with_reducible exact impl_StoreOk.mono _ _)
      | (with_reducible exact impl_StorePut.mono _ _ _)
      | (with_reducible exact laws_lgSlots.mono _ _ _)
      | (with_reducible exact spec_DrawStorePut.mono _ _)
      | (with_reducible exact spec_StorePut.mono _ _ _)
      | (with_reducible exact LeO.refl _)
      | (with_reducible exact LeO.none _)
      | (with_reducible refine LeO.ite ?_ ?_)
      | (with_reducible refine LeO.bind ?_ (fun _ => ?_))
      | exact ih0 _ _ _
      | exact ih1 _ _ _ _ _ _ _ _ _
      | exact impl_StoreFind.mono _ _ _
      | exact impl_StoreFree.mono _ _
      | exact impl_StoreOk.mono _ _
      | exact impl_StorePut.mono _ _ _
      | exact laws_lgSlots.mono _ _ _
      | exact spec_DrawStorePut.mono _ _
      | exact spec_StorePut.mono _ _ _
      | exact LeO.none _
      | refine LeO.ite ?_ ?_
      | refine LeO.bind ?_ (fun _ => ?_)
theorem laws_FnPutTwo.mono : ∀ a0 a1 k, LeO (laws_FnPutTwo.f k a0 a1) (laws_FnPutTwo.f (k + 1) a0 a1) := by
  intro a0 a1 k
  obtain ⟨ih0, ih1⟩ := laws_FnPutTwo.mono_l k
  unfold laws_FnPutTwo.f
  repeat' first
      | (with_reducible exact ih0 _ _ _)
      | (with_reducible exact ih1 _ _ _ _ _ _ _ _ _)
      | (with_reducible exact impl_StoreFind.mono _ _ _)
      | (with_reducible exact impl_StoreFree.mono _ _)
      | (with_reducible exact impl_StoreOk.mono _ _)
      | (with_reducible exact impl_StorePut.mono _ _ _)
      | (with_reducible exact laws_lgSlots.mono _ _ _)
      | (with_reducible exact spec_DrawStorePut.mono _ _)
      | (with_reducible exact spec_StorePut.mono _ _ _)
      | (with_reducible exact LeO.refl _)
      | (with_reducible exact LeO.none _)
      | (with_reducible refine LeO.ite ?_ ?_)
      | (with_reducible refine LeO.bind ?_ (fun _ => ?_))
      | exact ih0 _ _ _
      | exact ih1 _ _ _ _ _ _ _ _ _
      | exact impl_StoreFind.mono _ _ _
      | exact impl_StoreFree.mono _ _
      | exact impl_StoreOk.mono _ _
      | exact impl_StorePut.mono _ _ _
      | exact laws_lgSlots.mono _ _ _
      | exact spec_DrawStorePut.mono _ _
      | exact spec_StorePut.mono _ _ _
      | exact LeO.none _
      | refine LeO.ite ?_ ?_
      | refine LeO.bind ?_ (fun _ => ?_)
set_option maxHeartbeats 8000000 in
set_option maxRecDepth 100000 in
theorem laws_FnPutTwo.calls (k : Nat) (A0 : Option Addr) (c0 : Nat) (l0 : List Int) (A1 : Option Addr) (c1 : Nat) (l1 : List Int) (r : Bool) (w : World) (hr0 : Kd.C (Kd.int .u8) w A0 l0.length l0) (hc0 : l0.length ≤ c0) (hr1 : Kd.C (Kd.int .u8) w A1 l1.length l1) (hc1 : l1.length ≤ c1) (h : laws_FnPutTwo.f k l0 l1 = some r) (hr_ : r = true) :
    Calls Try.prog 17 #[.slice A0 l0.length c0, .slice A1 l1.length c1] w fun e w' => e = .returned (.bool r) ∧ Below w.heap.size w w' := by
  have HR0 := Aside0.mk hr0
  have HC0 := Aside0.mk hc0
  clear hr0 hc0
  have HR1 := Aside0.mk hr1
  have HC1 := Aside0.mk hc1
  clear hr1 hc1
  have HB := Aside0.mk (Below.refl w.heap.size w)
  have H : (if (l0.length : Int) > 1048576 then (laws_FnPutTwo.j0 k l0 l1 true) else (laws_FnPutTwo.j0 k l0 l1 (decide ((l1.length : Int) > 1048576)))) = some r := h
  clear h
  have HC3 := Aside0.mk H
  clear H
  go_enter Try.func17, Try.ntmps17
  go_upto_region 1 with (fail)
  go_cut [28] (fun v28 wc => ∃ (kq : Nat) (x28_2 : Bool), v28 = .bool x28_2 ∧ Aside0 (laws_FnPutTwo.j0 kq l0 l1 x28_2 = some r) ∧ Aside0 (kq ≤ k) ∧ Aside0 (Below w.heap.size w wc))
  case first =>
    have H := HC3.out
    clear HC3
    by_cases c4 : (l0.length : Int) > 1048576
    · rw [if_pos c4] at H
      have c4b0 : decide (1048576 < (l0.length : Int)) = true := decide_eq_true c4
      have c4b1 : decide (1048576 < l0.length) = true := decide_eq_true (by omega)
      clear c4
      (first | rw [c4b0] | (simp only [i64_w, i32_w]; rw [c4b0]) | skip)
      have H' := Aside0.mk H
      clear H
      go_wp2
      go_meet
      case rel => exact ⟨_, (true), (by first | rfl | (simp; done) | (simp [*]; done) | (simp; first | exact Go.Proofs.YtjdkccpcgmgmmaaB.bne1 _ _ | exact Go.Proofs.YtjdkccpcgmgmmaaB.bne2 _ _ | exact Go.Proofs.YtjdkccpcgmgmmaaB.bne3 _ _ | exact Go.Proofs.YtjdkccpcgmgmmaaB.bne4 _ _ | exact Go.Proofs.YtjdkccpcgmgmmaaB.emp1 _ | exact Go.Proofs.YtjdkccpcgmgmmaaB.emp2 _ | exact Go.Proofs.YtjdkccpcgmgmmaaB.emp3 _)), H', ⟨by first | omega | exact Nat.le_refl _⟩, ⟨by repeat (first | (with_reducible first | exact HB.out | apply below_alloc | apply pw_below_drewN | apply below_drew1) | exact HB.out)⟩⟩
    · rw [if_neg c4] at H
      have c4b0 : decide (1048576 < (l0.length : Int)) = false := decide_eq_false c4
      have c4b1 : decide (1048576 < l0.length) = false := decide_eq_false (by omega)
      clear c4
      (first | rw [c4b0] | (simp only [i64_w, i32_w]; rw [c4b0]) | skip)
      have H' := Aside0.mk H
      clear H
      go_wp2
      go_meet
      case rel => exact ⟨_, (decide ((l1.length : Int) > 1048576)), (by first | rfl | (simp; done) | (simp [*]; done) | (simp; first | exact Go.Proofs.YtjdkccpcgmgmmaaB.bne1 _ _ | exact Go.Proofs.YtjdkccpcgmgmmaaB.bne2 _ _ | exact Go.Proofs.YtjdkccpcgmgmmaaB.bne3 _ _ | exact Go.Proofs.YtjdkccpcgmgmmaaB.bne4 _ _ | exact Go.Proofs.YtjdkccpcgmgmmaaB.emp1 _ | exact Go.Proofs.YtjdkccpcgmgmmaaB.emp2 _ | exact Go.Proofs.YtjdkccpcgmgmmaaB.emp3 _)), H', ⟨by first | omega | exact Nat.le_refl _⟩, ⟨by repeat (first | (with_reducible first | exact HB.out | apply below_alloc | apply pw_below_drewN | apply below_drew1) | exact HB.out)⟩⟩
  case rest =>
    clear HC3
    try clear c1
    try clear p2
    try clear c4
    try clear c4b0
    try clear c4b1
    obtain ⟨kq, x28_2, rfl, HA, HJ2, HB⟩ := hcut
    cases kq with
    | zero => exact absurd HA.out (by simp [laws_FnPutTwo.j0])
    | succ kj2 =>
      have H := HA.out
      clear HA
      simp only [laws_FnPutTwo.j0] at H
      by_cases c5 : x28_2 = true
      · subst c5
        have H1 : (some true) = some r := by rw [if_pos rfl] at H; exact H
        clear H
        have H := H1
        clear H1
        obtain rfl := Option.some.inj H
        go_wp2
        go_ret
        exact ⟨by first | rfl | (simp [errW_none, errW_some] <;> rfl) | (simp [errW_none, errW_some]; first | exact Go.Proofs.YtjdkccpcgmgmmaaB.emp1 _ | exact Go.Proofs.YtjdkccpcgmgmmaaB.emp2 _ | exact Go.Proofs.YtjdkccpcgmgmmaaB.emp3 _) | (simp [*, errW_none, errW_some] <;> rfl), by repeat (first | (with_reducible first | exact HB.out | apply below_alloc | apply pw_below_drewN | apply below_drew1) | exact HB.out)⟩
      · replace c5 := Bool.eq_false_iff.mpr c5
        subst c5
        have H1 : ((spec_DrawStorePut.f kj2 l0).bind fun bt259 => ((spec_StorePut.f kj2 bt259.1 bt259.2).bind fun bt263 => ((impl_StorePut.f kj2 bt259.1 bt259.2).bind fun bt268 => (if (bt268.2.2 != bt263.2.2) = true then (laws_FnPutTwo.j1 kj2 l1 bt259.2 bt263.1 bt263.2.1 bt263.2.2 bt268.1 bt268.2.1 bt268.2.2 true) else (if bt268.2.1 = bt263.2.1 then ((laws_lgSlots.f kj2 bt268.1 bt263.1).bind fun t273 => (if t273 = true then (laws_FnPutTwo.j1 kj2 l1 bt259.2 bt263.1 bt263.2.1 bt263.2.2 bt268.1 bt268.2.1 bt268.2.2 (!bt268.2.2)) else (laws_FnPutTwo.j1 kj2 l1 bt259.2 bt263.1 bt263.2.1 bt263.2.2 bt268.1 bt268.2.1 bt268.2.2 true))) else (laws_FnPutTwo.j1 kj2 l1 bt259.2 bt263.1 bt263.2.1 bt263.2.2 bt268.1 bt268.2.1 bt268.2.2 true)))))) = some r := by rw [if_neg (show ¬ (false = true) by decide)] at H; exact H
        clear H
        have H := H1
        clear H1
        replace H := Option.bind_eq_some_iff.mp H
        obtain ⟨⟨t259, t260⟩, A60, H⟩ := H
        replace H : ((spec_StorePut.f kj2 t259 t260).bind fun bt263 => ((impl_StorePut.f kj2 t259 t260).bind fun bt268 => (if (bt268.2.2 != bt263.2.2) = true then (laws_FnPutTwo.j1 kj2 l1 t260 bt263.1 bt263.2.1 bt263.2.2 bt268.1 bt268.2.1 bt268.2.2 true) else (if bt268.2.1 = bt263.2.1 then ((laws_lgSlots.f kj2 bt268.1 bt263.1).bind fun t273 => (if t273 = true then (laws_FnPutTwo.j1 kj2 l1 t260 bt263.1 bt263.2.1 bt263.2.2 bt268.1 bt268.2.1 bt268.2.2 (!bt268.2.2)) else (laws_FnPutTwo.j1 kj2 l1 t260 bt263.1 bt263.2.1 bt263.2.2 bt268.1 bt268.2.1 bt268.2.2 true))) else (laws_FnPutTwo.j1 kj2 l1 t260 bt263.1 bt263.2.1 bt263.2.2 bt268.1 bt268.2.1 bt268.2.2 true))))) = some r := H
        have A6 := Aside0.mk A60
        clear A60
        replace H := Option.bind_eq_some_iff.mp H
        obtain ⟨⟨t263, t264, t265⟩, A70, H⟩ := H
        replace H : ((impl_StorePut.f kj2 t259 t260).bind fun bt268 => (if (bt268.2.2 != t265) = true then (laws_FnPutTwo.j1 kj2 l1 t260 t263 t264 t265 bt268.1 bt268.2.1 bt268.2.2 true) else (if bt268.2.1 = t264 then ((laws_lgSlots.f kj2 bt268.1 t263).bind fun t273 => (if t273 = true then (laws_FnPutTwo.j1 kj2 l1 t260 t263 t264 t265 bt268.1 bt268.2.1 bt268.2.2 (!bt268.2.2)) else (laws_FnPutTwo.j1 kj2 l1 t260 t263 t264 t265 bt268.1 bt268.2.1 bt268.2.2 true))) else (laws_FnPutTwo.j1 kj2 l1 t260 t263 t264 t265 bt268.1 bt268.2.1 bt268.2.2 true)))) = some r := H
        have A7 := Aside0.mk A70
        clear A70
        replace H := Option.bind_eq_some_iff.mp H
        obtain ⟨⟨t268, t269, t270⟩, A80, H⟩ := H
        replace H : (if (t270 != t265) = true then (laws_FnPutTwo.j1 kj2 l1 t260 t263 t264 t265 t268 t269 t270 true) else (if t269 = t264 then ((laws_lgSlots.f kj2 t268 t263).bind fun t273 => (if t273 = true then (laws_FnPutTwo.j1 kj2 l1 t260 t263 t264 t265 t268 t269 t270 (!t270)) else (laws_FnPutTwo.j1 kj2 l1 t260 t263 t264 t265 t268 t269 t270 true))) else (laws_FnPutTwo.j1 kj2 l1 t260 t263 t264 t265 t268 t269 t270 true))) = some r := H
        have A8 := Aside0.mk A80
        clear A80
        have HC9 := Aside0.mk H
        clear H
        go_upto_region 6 with (first | ((with_reducible refine gate_callee (f := 47) rfl ?_); refine goesL_ (some 31) rfl rfl Try.func47 (by kernel_rfl) rfl #[.slice A0 l0.length c0] rfl (by (try simp only [List.map_toArray, List.map_cons, List.map_nil]); first | done | rfl | (simp only [List.length_drop, List.length_take]; rfl)) ?_; (with_reducible refine (spec_DrawStorePut.calls kj2 _ _ l0 t259 t260 _ ?side1 ?side2 A6.out).mono ?_); (case side1 => repeat (first | exact (Kd.C_below HR0.out HB.out) | (with_reducible refine Kd.C_alloc ?_ _) | (with_reducible refine Kd.C_drewN ?_ _) | (with_reducible refine Kd.C_drew ?_))); (case side2 => exact HC0.out); rintro e w10 ⟨v261, rfl, ho0, hb⟩; refine ⟨_, rfl, ?_⟩; have n0_ := Aside0.mk (Kd.Q_lower ho0 (below_size (by repeat (first | (with_reducible first | exact HB.out | apply below_alloc | apply pw_below_drewN | apply below_drew1) | exact HB.out)))); have n1_ := Aside0.mk (below_step (by repeat (first | (with_reducible first | exact HB.out | apply below_alloc | apply pw_below_drewN | apply below_drew1) | exact HB.out)) hb); clear HB; have HO262 := n0_; have HB := n1_; clear n0_ n1_; (try clear hb); (try clear hb2); (try clear hk); (try clear hi); (try clear ho0); obtain ⟨Ao11, co11, eo11, _⟩ := Kd.Q_slice HO262.out; subst eo11) | ((with_reducible refine gate_callee (f := 45) rfl ?_); refine goesL_ (some 37) rfl rfl Try.func45 (by kernel_rfl) rfl #[.slice Ao11 t259.length co11, .string t260] rfl (by (try simp only [List.map_toArray, List.map_cons, List.map_nil]); first | done | rfl | (simp only [List.length_drop, List.length_take]; rfl)) ?_; (with_reducible refine (spec_StorePut.calls kj2 _ _ t259 t260 t263 t264 t265 _ ?side1 ?side2 A7.out).mono ?_); (case side1 => repeat (first | exact (Kd.Q_reads' HO262.out).2.2 | (with_reducible refine Kd.C_alloc ?_ _) | (with_reducible refine Kd.C_drewN ?_ _) | (with_reducible refine Kd.C_drew ?_))); (case side2 => exact (Kd.Q_reads' HO262.out).2.1); rintro e w12 ⟨v266, rfl, ho0, hb⟩; refine ⟨_, rfl, ?_⟩; have n0_ := Aside0.mk (Kd.Q_elder' (by (with_reducible repeat (first | apply Kd.Q_alloc | apply Kd.Q_drewN | apply Kd.Q_drew)); exact HO262.out) (Kd.Q_base ho0) hb); have n1_ := Aside0.mk (Kd.Q_lower (Kd.Q_new' ho0 (Kd.Q_lt (by (with_reducible repeat (first | apply Kd.Q_alloc | apply Kd.Q_drewN | apply Kd.Q_drew)); exact HO262.out))) (below_size (by repeat (first | (with_reducible first | exact HB.out | apply below_alloc | apply pw_below_drewN | apply below_drew1) | exact HB.out)))); have n2_ := Aside0.mk (below_step (by repeat (first | (with_reducible first | exact HB.out | apply below_alloc | apply pw_below_drewN | apply below_drew1) | exact HB.out)) hb); clear HO262; clear HB; have HO262 := n0_; have HO267 := n1_; have HB := n2_; clear n0_ n1_ n2_; (try clear hb); (try clear hb2); (try clear hk); (try clear hi); (try clear ho0)) | ((with_reducible refine gate_callee (f := 46) rfl ?_); refine goesL_ (some 44) rfl rfl Try.func46 (by kernel_rfl) rfl #[.slice Ao11 t259.length co11, .string t260] rfl (by (try simp only [List.map_toArray, List.map_cons, List.map_nil]); first | done | rfl | (simp only [List.length_drop, List.length_take]; rfl)) ?_; (with_reducible refine (impl_StorePut.calls kj2 _ _ t259 t260 t268 t269 t270 _ ?side1 ?side2 A8.out).mono ?_); (case side1 => repeat (first | exact (Kd.Q_reads' HO262.out).2.2 | (with_reducible refine Kd.C_alloc ?_ _) | (with_reducible refine Kd.C_drewN ?_ _) | (with_reducible refine Kd.C_drew ?_))); (case side2 => exact (Kd.Q_reads' HO262.out).2.1); rintro e w13 ⟨v271, rfl, ho0, hb⟩; refine ⟨_, rfl, ?_⟩; have n0_ := Aside0.mk (Kd.Q_elder' (by (with_reducible repeat (first | apply Kd.Q_alloc | apply Kd.Q_drewN | apply Kd.Q_drew)); exact HO262.out) (Kd.R_base ho0) hb); have n1_ := Aside0.mk (Kd.Q_elder' (by (with_reducible repeat (first | apply Kd.Q_alloc | apply Kd.Q_drewN | apply Kd.Q_drew)); exact HO267.out) (Kd.R_base ho0) hb); have n2_ := Aside0.mk (Kd.R_lower (Kd.R_new' (Kd.R_new' ho0 (Kd.Q_lt (by (with_reducible repeat (first | apply Kd.Q_alloc | apply Kd.Q_drewN | apply Kd.Q_drew)); exact HO262.out))) (Kd.Q_lt (by (with_reducible repeat (first | apply Kd.Q_alloc | apply Kd.Q_drewN | apply Kd.Q_drew)); exact HO267.out))) (below_size (by repeat (first | (with_reducible first | exact HB.out | apply below_alloc | apply pw_below_drewN | apply below_drew1) | exact HB.out)))); have n3_ := Aside0.mk (below_step (by repeat (first | (with_reducible first | exact HB.out | apply below_alloc | apply pw_below_drewN | apply below_drew1) | exact HB.out)) hb); clear HO262; clear HO267; clear HB; have HO262 := n0_; have HO267 := n1_; have HO272 := n2_; have HB := n3_; clear n0_ n1_ n2_ n3_; (try clear hb); (try clear hb2); (try clear hk); (try clear hi); (try clear ho0)))
        (try simp only [Act.put, List.setIfInBounds_toArray, List.set_cons_zero, List.set_cons_succ])
        go_cut [65] (fun v65 wc => ∃ (kq : Nat) (x65_8 : Bool), v65 = .bool x65_8 ∧ Aside0 (laws_FnPutTwo.j1 kq l1 t260 t263 t264 t265 t268 t269 t270 x65_8 = some r) ∧ Aside0 (kq ≤ kj2) ∧ Aside0 (Kd.Q k36 36 wc w.heap.size (fun k_ => some k_ ≠ (v271 : Value).ownBlock) v266 t263) ∧ Aside0 (Kd.R k36 36 wc w.heap.size (fun k_ => some k_ ≠ (v266 : Value).ownBlock) v271 t268) ∧ Aside0 (Below w.heap.size w wc))
        case first =>
          have H := HC9.out
          clear HC9
          by_cases c14 : (t270 != t265) = true
          · rw [if_pos c14] at H
            have c14b0 : (t270 != t265) = true := c14
            (try (have c14b1 : decide (t270 = t265) = false := by simpa using c14))
            (try (have c14b2 : (t270 == t265) = false := by simpa using c14))
            (try (have c14b3 : ¬ (t270 = t265) := by simpa using c14))
            clear c14
            (first | rw [c14b0] | (simp only [i64_w, i32_w]; rw [c14b0]) | skip)
            have H' := Aside0.mk H
            clear H
            go_wp2
            go_meet
            case rel => exact ⟨_, (true), (by first | rfl | (simp; done) | (simp [*]; done) | (simp; first | exact Go.Proofs.YtjdkccpcgmgmmaaB.bne1 _ _ | exact Go.Proofs.YtjdkccpcgmgmmaaB.bne2 _ _ | exact Go.Proofs.YtjdkccpcgmgmmaaB.bne3 _ _ | exact Go.Proofs.YtjdkccpcgmgmmaaB.bne4 _ _ | exact Go.Proofs.YtjdkccpcgmgmmaaB.emp1 _ | exact Go.Proofs.YtjdkccpcgmgmmaaB.emp2 _ | exact Go.Proofs.YtjdkccpcgmgmmaaB.emp3 _)), H', ⟨by have := HJ2.out; first | omega | exact Nat.le_refl _⟩, ⟨by (with_reducible repeat (first | apply Kd.Q_alloc | apply Kd.Q_drewN | apply Kd.Q_drew)); exact Kd.Q_mono HO267.out (fun _ hk => by first | exact hk.2 | trivial)⟩, ⟨by (with_reducible repeat (first | apply Kd.R_alloc | apply Kd.R_drewN | apply Kd.R_drew)); exact Kd.R_mono HO272.out (fun _ hk => by first | exact hk.2 | trivial)⟩, ⟨by repeat (first | (with_reducible first | exact HB.out | apply below_alloc | apply pw_below_drewN | apply below_drew1) | exact HB.out)⟩⟩
          · rw [if_neg c14] at H
            have c14b0 : (t270 != t265) = false := by simpa using c14
            (try (have c14b1 : decide (t270 = t265) = true := by simpa using c14))
            (try (have c14b2 : (t270 == t265) = true := by simpa using c14))
            clear c14
            (first | rw [c14b0] | (simp only [i64_w, i32_w]; rw [c14b0]) | skip)
            by_cases c15 : t269 = t264
            · rw [if_pos c15] at H
              have c15b0 : (t269 == t264) = true := beq_iff_eq.mpr c15
              have c15b1 : (t269 != t264) = false := bne_eq_false_iff_eq.mpr c15
              clear c15
              replace H := Option.bind_eq_some_iff.mp H
              obtain ⟨t273, A160, H⟩ := H
              replace H : (if t273 = true then (laws_FnPutTwo.j1 kj2 l1 t260 t263 t264 t265 t268 t269 t270 (!t270)) else (laws_FnPutTwo.j1 kj2 l1 t260 t263 t264 t265 t268 t269 t270 true)) = some r := H
              have A16 := Aside0.mk A160
              clear A160
              by_cases c17 : t273 = true
              · subst c17
                have H1 : (laws_FnPutTwo.j1 kj2 l1 t260 t263 t264 t265 t268 t269 t270 (!t270)) = some r := by rw [if_pos rfl] at H; exact H
                clear H
                have H := H1
                clear H1
                have H' := Aside0.mk H
                clear H
                obtain ⟨Ao18, co18, eo18⟩ := Kd.R_slice HO272.out
                subst eo18
                obtain ⟨Ao19, co19, eo19, _⟩ := Kd.Q_slice HO267.out
                subst eo19
                go_wp2_with (first | (go_at_call 43; (with_reducible refine (laws_lgSlots.calls kj2 _ _ t268 _ _ t263 true _ ?side1 ?side2 ?side3 ?side4 A16.out).mono ?_); (case side1 => repeat (first | exact (Kd.R_reads' HO272.out).2.2 | (with_reducible refine Kd.C_alloc ?_ _) | (with_reducible refine Kd.C_drewN ?_ _) | (with_reducible refine Kd.C_drew ?_))); (case side2 => exact (Kd.R_reads' HO272.out).2.1); (case side3 => repeat (first | exact (Kd.Q_reads' HO267.out).2.2 | (with_reducible refine Kd.C_alloc ?_ _) | (with_reducible refine Kd.C_drewN ?_ _) | (with_reducible refine Kd.C_drew ?_))); (case side4 => exact (Kd.Q_reads' HO267.out).2.1); rintro e w' ⟨rfl, ⟨nd, rfl⟩⟩))
                go_meet
                case rel => exact ⟨_, (!t270), (by first | rfl | (simp; done) | (simp [*]; done) | (simp; first | exact Go.Proofs.YtjdkccpcgmgmmaaB.bne1 _ _ | exact Go.Proofs.YtjdkccpcgmgmmaaB.bne2 _ _ | exact Go.Proofs.YtjdkccpcgmgmmaaB.bne3 _ _ | exact Go.Proofs.YtjdkccpcgmgmmaaB.bne4 _ _ | exact Go.Proofs.YtjdkccpcgmgmmaaB.emp1 _ | exact Go.Proofs.YtjdkccpcgmgmmaaB.emp2 _ | exact Go.Proofs.YtjdkccpcgmgmmaaB.emp3 _)), H', ⟨by have := HJ2.out; first | omega | exact Nat.le_refl _⟩, ⟨by (with_reducible repeat (first | apply Kd.Q_alloc | apply Kd.Q_drewN | apply Kd.Q_drew)); exact Kd.Q_mono HO267.out (fun _ hk => by first | exact hk.2 | trivial)⟩, ⟨by (with_reducible repeat (first | apply Kd.R_alloc | apply Kd.R_drewN | apply Kd.R_drew)); exact Kd.R_mono HO272.out (fun _ hk => by first | exact hk.2 | trivial)⟩, ⟨by repeat (first | (with_reducible first | exact HB.out | apply below_alloc | apply pw_below_drewN | apply below_drew1) | exact HB.out)⟩⟩
              · replace c17 := Bool.eq_false_iff.mpr c17
                subst c17
                have H1 : (laws_FnPutTwo.j1 kj2 l1 t260 t263 t264 t265 t268 t269 t270 true) = some r := by rw [if_neg (show ¬ (false = true) by decide)] at H; exact H
                clear H
                have H := H1
                clear H1
                have H' := Aside0.mk H
                clear H
                obtain ⟨Ao20, co20, eo20⟩ := Kd.R_slice HO272.out
                subst eo20
                obtain ⟨Ao21, co21, eo21, _⟩ := Kd.Q_slice HO267.out
                subst eo21
                go_wp2_with (first | (go_at_call 43; (with_reducible refine (laws_lgSlots.calls kj2 _ _ t268 _ _ t263 false _ ?side1 ?side2 ?side3 ?side4 A16.out).mono ?_); (case side1 => repeat (first | exact (Kd.R_reads' HO272.out).2.2 | (with_reducible refine Kd.C_alloc ?_ _) | (with_reducible refine Kd.C_drewN ?_ _) | (with_reducible refine Kd.C_drew ?_))); (case side2 => exact (Kd.R_reads' HO272.out).2.1); (case side3 => repeat (first | exact (Kd.Q_reads' HO267.out).2.2 | (with_reducible refine Kd.C_alloc ?_ _) | (with_reducible refine Kd.C_drewN ?_ _) | (with_reducible refine Kd.C_drew ?_))); (case side4 => exact (Kd.Q_reads' HO267.out).2.1); rintro e w' ⟨rfl, ⟨nd, rfl⟩⟩))
                go_meet
                case rel => exact ⟨_, (true), (by first | rfl | (simp; done) | (simp [*]; done) | (simp; first | exact Go.Proofs.YtjdkccpcgmgmmaaB.bne1 _ _ | exact Go.Proofs.YtjdkccpcgmgmmaaB.bne2 _ _ | exact Go.Proofs.YtjdkccpcgmgmmaaB.bne3 _ _ | exact Go.Proofs.YtjdkccpcgmgmmaaB.bne4 _ _ | exact Go.Proofs.YtjdkccpcgmgmmaaB.emp1 _ | exact Go.Proofs.YtjdkccpcgmgmmaaB.emp2 _ | exact Go.Proofs.YtjdkccpcgmgmmaaB.emp3 _)), H', ⟨by have := HJ2.out; first | omega | exact Nat.le_refl _⟩, ⟨by (with_reducible repeat (first | apply Kd.Q_alloc | apply Kd.Q_drewN | apply Kd.Q_drew)); exact Kd.Q_mono HO267.out (fun _ hk => by first | exact hk.2 | trivial)⟩, ⟨by (with_reducible repeat (first | apply Kd.R_alloc | apply Kd.R_drewN | apply Kd.R_drew)); exact Kd.R_mono HO272.out (fun _ hk => by first | exact hk.2 | trivial)⟩, ⟨by repeat (first | (with_reducible first | exact HB.out | apply below_alloc | apply pw_below_drewN | apply below_drew1) | exact HB.out)⟩⟩
            · rw [if_neg c15] at H
              have c15b0 : (t269 == t264) = false := beq_eq_false_iff_ne.mpr c15
              have c15b1 : (t269 != t264) = true := bne_iff_ne.mpr c15
              have H' := Aside0.mk H
              clear H
              go_wp2
              go_meet
              case rel => exact ⟨_, (true), (by first | rfl | (simp; done) | (simp [*]; done) | (simp; first | exact Go.Proofs.YtjdkccpcgmgmmaaB.bne1 _ _ | exact Go.Proofs.YtjdkccpcgmgmmaaB.bne2 _ _ | exact Go.Proofs.YtjdkccpcgmgmmaaB.bne3 _ _ | exact Go.Proofs.YtjdkccpcgmgmmaaB.bne4 _ _ | exact Go.Proofs.YtjdkccpcgmgmmaaB.emp1 _ | exact Go.Proofs.YtjdkccpcgmgmmaaB.emp2 _ | exact Go.Proofs.YtjdkccpcgmgmmaaB.emp3 _)), H', ⟨by have := HJ2.out; first | omega | exact Nat.le_refl _⟩, ⟨by (with_reducible repeat (first | apply Kd.Q_alloc | apply Kd.Q_drewN | apply Kd.Q_drew)); exact Kd.Q_mono HO267.out (fun _ hk => by first | exact hk.2 | trivial)⟩, ⟨by (with_reducible repeat (first | apply Kd.R_alloc | apply Kd.R_drewN | apply Kd.R_drew)); exact Kd.R_mono HO272.out (fun _ hk => by first | exact hk.2 | trivial)⟩, ⟨by repeat (first | (with_reducible first | exact HB.out | apply below_alloc | apply pw_below_drewN | apply below_drew1) | exact HB.out)⟩⟩
        case rest =>
          clear HC9
          try clear c1
          try clear p2
          try clear c4
          try clear c4b0
          try clear c4b1
          try clear c5
          try clear c14
          try clear c14b0
          try clear c14b1
          try clear c14b2
          try clear c15
          try clear c15b0
          try clear c15b1
          try clear c17
          try clear p2
          obtain ⟨kq, x65_8, rfl, HA, HJ8, HO_7, HO_10, HB⟩ := hcut
          cases kq with
          | zero => exact absurd HA.out (by simp [laws_FnPutTwo.j1])
          | succ kj8 =>
            have H := HA.out
            clear HA
            simp only [laws_FnPutTwo.j1] at H
            by_cases c22 : x65_8 = true
            · subst c22
              have H1 : (if (t270 == t265) = true then (if t269 = t264 then ((laws_lgSlots.f kj8 t268 t263).bind fun t274 => (some t274)) else (some false)) else (some false)) = some r := by rw [if_pos rfl] at H; exact H
              clear H
              have H := H1
              clear H1
              by_cases c23 : (t270 == t265) = true
              · rw [if_pos c23] at H
                have c23b0 : (t270 == t265) = true := c23
                (try (have c23b1 : decide (t270 = t265) = true := by simpa using c23))
                (try (have c23b2 : (t270 == t265) = true := by simpa using c23))
                clear c23
                by_cases c24 : t269 = t264
                · rw [if_pos c24] at H
                  have c24b0 : (t269 == t264) = true := beq_iff_eq.mpr c24
                  have c24b1 : (t269 != t264) = false := bne_eq_false_iff_eq.mpr c24
                  clear c24
                  replace H := Option.bind_eq_some_iff.mp H
                  obtain ⟨t274, A250, H⟩ := H
                  replace H : (some t274) = some r := H
                  have A25 := Aside0.mk A250
                  clear A250
                  obtain rfl := Option.some.inj H
                  obtain ⟨Ao26, co26, eo26⟩ := Kd.R_slice HO_10.out
                  subst eo26
                  obtain ⟨Ao27, co27, eo27, _⟩ := Kd.Q_slice HO_7.out
                  subst eo27
                  go_wp2_with (first | (go_at_call 43; (with_reducible refine (laws_lgSlots.calls kj8 _ _ t268 _ _ t263 t274 _ ?side1 ?side2 ?side3 ?side4 A25.out).mono ?_); (case side1 => repeat (first | exact (Kd.R_reads' HO_10.out).2.2 | (with_reducible refine Kd.C_alloc ?_ _) | (with_reducible refine Kd.C_drewN ?_ _) | (with_reducible refine Kd.C_drew ?_))); (case side2 => exact (Kd.R_reads' HO_10.out).2.1); (case side3 => repeat (first | exact (Kd.Q_reads' HO_7.out).2.2 | (with_reducible refine Kd.C_alloc ?_ _) | (with_reducible refine Kd.C_drewN ?_ _) | (with_reducible refine Kd.C_drew ?_))); (case side4 => exact (Kd.Q_reads' HO_7.out).2.1); rintro e w' ⟨rfl, ⟨nd, rfl⟩⟩))
                  go_ret
                  exact ⟨by first | rfl | (simp [errW_none, errW_some] <;> rfl) | (simp [errW_none, errW_some]; first | exact Go.Proofs.YtjdkccpcgmgmmaaB.emp1 _ | exact Go.Proofs.YtjdkccpcgmgmmaaB.emp2 _ | exact Go.Proofs.YtjdkccpcgmgmmaaB.emp3 _) | (simp [*, errW_none, errW_some] <;> rfl), by repeat (first | (with_reducible first | exact HB.out | apply below_alloc | apply pw_below_drewN | apply below_drew1) | exact HB.out)⟩
                · rw [if_neg c24] at H
                  have c24b0 : (t269 == t264) = false := beq_eq_false_iff_ne.mpr c24
                  have c24b1 : (t269 != t264) = true := bne_iff_ne.mpr c24
                  exact Bool.noConfusion ((Option.some.inj H).trans hr_)
              · rw [if_neg c23] at H
                have c23b0 : (t270 == t265) = false := by simpa using c23
                (try (have c23b1 : decide (t270 = t265) = false := by simpa using c23))
                (try (have c23b2 : (t270 == t265) = false := by simpa using c23))
                (try (have c23b3 : ¬ (t270 = t265) := by simpa using c23))
                clear c23
                exact Bool.noConfusion ((Option.some.inj H).trans hr_)
            · replace c22 := Bool.eq_false_iff.mpr c22
              subst c22
              have H1 : ((some (([(⟨#[97]⟩ : ByteArray), (⟨#[97, 98]⟩ : ByteArray), (⟨#[99, 99]⟩ : ByteArray), (⟨#[100, 100, 97]⟩ : ByteArray), (⟨#[98]⟩ : ByteArray)] : List ByteArray) : List ByteArray)).bind fun y275 => (if 0 ≤ ((l1.length : Int) % 5) then (if ((l1.length : Int) % 5) < (y275.length : Int) then ((impl_StorePut.f kj8 t268 (rdOf ByteArray.empty y275 ((l1.length : Int) % 5))).bind fun bt279 => (if bt279.2.2 = true then ((impl_StoreFind.f kj8 bt279.1 t260).bind fun bt284 => ((impl_StoreFind.f kj8 bt279.1 (rdOf ByteArray.empty y275 ((l1.length : Int) % 5))).bind fun bt286 => (if bt284.2 = true then (if bt286.2 = true then (if bt284.1 = t269 then (if bt286.1 = bt279.2.1 then (if ((bt284.1 == bt286.1) == (t260.toList == (rdOf ByteArray.empty y275 ((l1.length : Int) % 5)).toList)) = true then ((impl_StoreOk.f kj8 bt279.1).bind fun t288 => (some t288)) else (some false)) else (some false)) else (some false)) else (some false)) else (some false)))) else ((impl_StoreFree.f kj8 t268).bind fun t289 => (if t289 = 0 then ((laws_lgSlots.f kj8 bt279.1 t268).bind fun t290 => (some t290)) else (some false))))) else (none)) else (none))) = some r := by rw [if_neg (show ¬ (false = true) by decide)] at H; exact H
              clear H
              have H := H1
              clear H1
              obtain ⟨y275, hy275⟩ : ∃ y_ : List ByteArray, y_ = (([(⟨#[97]⟩ : ByteArray), (⟨#[97, 98]⟩ : ByteArray), (⟨#[99, 99]⟩ : ByteArray), (⟨#[100, 100, 97]⟩ : ByteArray), (⟨#[98]⟩ : ByteArray)] : List ByteArray)) := ⟨_, rfl⟩
              replace H : (if 0 ≤ ((l1.length : Int) % 5) then (if ((l1.length : Int) % 5) < (y275.length : Int) then ((impl_StorePut.f kj8 t268 (rdOf ByteArray.empty y275 ((l1.length : Int) % 5))).bind fun bt279 => (if bt279.2.2 = true then ((impl_StoreFind.f kj8 bt279.1 t260).bind fun bt284 => ((impl_StoreFind.f kj8 bt279.1 (rdOf ByteArray.empty y275 ((l1.length : Int) % 5))).bind fun bt286 => (if bt284.2 = true then (if bt286.2 = true then (if bt284.1 = t269 then (if bt286.1 = bt279.2.1 then (if ((bt284.1 == bt286.1) == (t260.toList == (rdOf ByteArray.empty y275 ((l1.length : Int) % 5)).toList)) = true then ((impl_StoreOk.f kj8 bt279.1).bind fun t288 => (some t288)) else (some false)) else (some false)) else (some false)) else (some false)) else (some false)))) else ((impl_StoreFree.f kj8 t268).bind fun t289 => (if t289 = 0 then ((laws_lgSlots.f kj8 bt279.1 t268).bind fun t290 => (some t290)) else (some false))))) else (none)) else (none)) = some r := by first | (rw [hy275]; with_reducible exact H) | (have H2_ := (Option.bind_some _ _).symm.trans H; rw [hy275]; with_reducible exact H2_) | (have H2_ := (Option.bind_some _ _).symm.trans H; with_reducible exact H2_) | with_reducible exact H | (rw [hy275]; exact H) | exact H
              have Ny275 := Aside0.mk hy275
              clear hy275
              obtain ⟨ji28, hji28⟩ : ∃ j_ : Int, ((l1.length : Int) % 5) = j_ := ⟨_, rfl⟩
              replace H : (if 0 ≤ (ji28) then (if (ji28) < (y275.length : Int) then ((impl_StorePut.f kj8 t268 (rdOf ByteArray.empty y275 (ji28))).bind fun bt279 => (if bt279.2.2 = true then ((impl_StoreFind.f kj8 bt279.1 t260).bind fun bt284 => ((impl_StoreFind.f kj8 bt279.1 (rdOf ByteArray.empty y275 (ji28))).bind fun bt286 => (if bt284.2 = true then (if bt286.2 = true then (if bt284.1 = t269 then (if bt286.1 = bt279.2.1 then (if ((bt284.1 == bt286.1) == (t260.toList == (rdOf ByteArray.empty y275 (ji28)).toList)) = true then ((impl_StoreOk.f kj8 bt279.1).bind fun t288 => (some t288)) else (some false)) else (some false)) else (some false)) else (some false)) else (some false)))) else ((impl_StoreFree.f kj8 t268).bind fun t289 => (if t289 = 0 then ((laws_lgSlots.f kj8 bt279.1 t268).bind fun t290 => (some t290)) else (some false))))) else (none)) else (none)) = some r := by first | (rw [hji28] at H; exact H) | (simp only [hji28] at H ⊢; exact H)
              by_cases c29 : 0 ≤ (ji28)
              · rw [if_pos c29] at H
                have c29b0 : decide (0 ≤ (ji28)) = true := decide_eq_true c29
                clear c29
                by_cases c30 : (ji28) < (y275.length : Int)
                · rw [if_pos c30] at H
                  have c30b0 : decide ((ji28) < (y275.length : Int)) = true := decide_eq_true c30
                  clear c30
                  replace H := Option.bind_eq_some_iff.mp H
                  obtain ⟨⟨t279, t280, t281⟩, A310, H⟩ := H
                  replace H : (if t281 = true then ((impl_StoreFind.f kj8 t279 t260).bind fun bt284 => ((impl_StoreFind.f kj8 t279 (rdOf ByteArray.empty y275 (ji28))).bind fun bt286 => (if bt284.2 = true then (if bt286.2 = true then (if bt284.1 = t269 then (if bt286.1 = t280 then (if ((bt284.1 == bt286.1) == (t260.toList == (rdOf ByteArray.empty y275 (ji28)).toList)) = true then ((impl_StoreOk.f kj8 t279).bind fun t288 => (some t288)) else (some false)) else (some false)) else (some false)) else (some false)) else (some false)))) else ((impl_StoreFree.f kj8 t268).bind fun t289 => (if t289 = 0 then ((laws_lgSlots.f kj8 t279 t268).bind fun t290 => (some t290)) else (some false)))) = some r := H
                  have A31 := Aside0.mk A310
                  clear A310
                  by_cases c32 : t281 = true
                  · subst c32
                    have H1 : ((impl_StoreFind.f kj8 t279 t260).bind fun bt284 => ((impl_StoreFind.f kj8 t279 (rdOf ByteArray.empty y275 (ji28))).bind fun bt286 => (if bt284.2 = true then (if bt286.2 = true then (if bt284.1 = t269 then (if bt286.1 = t280 then (if ((bt284.1 == bt286.1) == (t260.toList == (rdOf ByteArray.empty y275 (ji28)).toList)) = true then ((impl_StoreOk.f kj8 t279).bind fun t288 => (some t288)) else (some false)) else (some false)) else (some false)) else (some false)) else (some false)))) = some r := by rw [if_pos rfl] at H; exact H
                    clear H
                    have H := H1
                    clear H1
                    replace H := Option.bind_eq_some_iff.mp H
                    obtain ⟨⟨t284, t285⟩, A330, H⟩ := H
                    replace H : ((impl_StoreFind.f kj8 t279 (rdOf ByteArray.empty y275 (ji28))).bind fun bt286 => (if t285 = true then (if bt286.2 = true then (if t284 = t269 then (if bt286.1 = t280 then (if ((t284 == bt286.1) == (t260.toList == (rdOf ByteArray.empty y275 (ji28)).toList)) = true then ((impl_StoreOk.f kj8 t279).bind fun t288 => (some t288)) else (some false)) else (some false)) else (some false)) else (some false)) else (some false))) = some r := H
                    have A33 := Aside0.mk A330
                    clear A330
                    replace H := Option.bind_eq_some_iff.mp H
                    obtain ⟨⟨t286, t287⟩, A340, H⟩ := H
                    replace H : (if t285 = true then (if t287 = true then (if t284 = t269 then (if t286 = t280 then (if ((t284 == t286) == (t260.toList == (rdOf ByteArray.empty y275 (ji28)).toList)) = true then ((impl_StoreOk.f kj8 t279).bind fun t288 => (some t288)) else (some false)) else (some false)) else (some false)) else (some false)) else (some false)) = some r := H
                    have A34 := Aside0.mk A340
                    clear A340
                    by_cases c35 : t285 = true
                    · subst c35
                      have H1 : (if t287 = true then (if t284 = t269 then (if t286 = t280 then (if ((t284 == t286) == (t260.toList == (rdOf ByteArray.empty y275 (ji28)).toList)) = true then ((impl_StoreOk.f kj8 t279).bind fun t288 => (some t288)) else (some false)) else (some false)) else (some false)) else (some false)) = some r := by rw [if_pos rfl] at H; exact H
                      clear H
                      have H := H1
                      clear H1
                      by_cases c36 : t287 = true
                      · subst c36
                        have H1 : (if t284 = t269 then (if t286 = t280 then (if ((t284 == t286) == (t260.toList == (rdOf ByteArray.empty y275 (ji28)).toList)) = true then ((impl_StoreOk.f kj8 t279).bind fun t288 => (some t288)) else (some false)) else (some false)) else (some false)) = some r := by rw [if_pos rfl] at H; exact H
                        clear H
                        have H := H1
                        clear H1
                        by_cases c37 : t284 = t269
                        · rw [if_pos c37] at H
                          have c37b0 : (t284 == t269) = true := beq_iff_eq.mpr c37
                          have c37b1 : (t284 != t269) = false := bne_eq_false_iff_eq.mpr c37
                          clear c37
                          by_cases c38 : t286 = t280
                          · rw [if_pos c38] at H
                            have c38b0 : (t286 == t280) = true := beq_iff_eq.mpr c38
                            have c38b1 : (t286 != t280) = false := bne_eq_false_iff_eq.mpr c38
                            clear c38
                            by_cases c39 : ((t284 == t286) == (t260.toList == (rdOf ByteArray.empty y275 (ji28)).toList)) = true
                            · rw [if_pos c39] at H
                              have c39b0 : ((t284 == t286) == (t260.toList == (rdOf ByteArray.empty y275 (ji28)).toList)) = true := c39
                              (try (have c39b1 : decide ((t284 == t286) = (t260.toList == (rdOf ByteArray.empty y275 (ji28)).toList)) = true := by simpa using c39))
                              (try (have c39b2 : ((t284 == t286) == (t260.toList == (rdOf ByteArray.empty y275 (ji28)).toList)) = true := by simpa using c39))
                              clear c39
                              replace H := Option.bind_eq_some_iff.mp H
                              obtain ⟨t288, A400, H⟩ := H
                              replace H : (some t288) = some r := H
                              have A40 := Aside0.mk A400
                              clear A400
                              obtain rfl := Option.some.inj H
                              go_wp2_with (first | ((with_reducible refine gate_dst (N := 79) rfl ?_); (try (refine gate_guard (by rfl) ?_; dsimp only)); refine Kd.R_lit Kd.string _ 9 ?hg (N := 79) ?hd (xs := ([(⟨#[97]⟩ : ByteArray), (⟨#[97, 98]⟩ : ByteArray), (⟨#[99, 99]⟩ : ByteArray), (⟨#[100, 100, 97]⟩ : ByteArray), (⟨#[98]⟩ : ByteArray)] : List ByteArray)) (inner := [.string (⟨#[97]⟩ : ByteArray), .string (⟨#[97, 98]⟩ : ByteArray), .string (⟨#[99, 99]⟩ : ByteArray), .string (⟨#[100, 100, 97]⟩ : ByteArray), .string (⟨#[98]⟩ : ByteArray)]) (ok := fun _ => True) (okp := fun _ => True) ?hr ?hp (fun _ hk => hk) trivial (Below.refl _ _) (Nat.le_refl _) (by simp) ?_; (case hd => rfl); (case hg => rfl); (case hr => first | (go_simp; done) | (go_simp; rfl)); (case hp => exact (Reps.one (show Kd.M Kd.string _ _ _ (⟨#[97]⟩ : ByteArray) [.string (⟨#[97]⟩ : ByteArray)] from rfl) (Reps.one (show Kd.M Kd.string _ _ _ (⟨#[97, 98]⟩ : ByteArray) [.string (⟨#[97, 98]⟩ : ByteArray)] from rfl) (Reps.one (show Kd.M Kd.string _ _ _ (⟨#[99, 99]⟩ : ByteArray) [.string (⟨#[99, 99]⟩ : ByteArray)] from rfl) (Reps.one (show Kd.M Kd.string _ _ _ (⟨#[100, 100, 97]⟩ : ByteArray) [.string (⟨#[100, 100, 97]⟩ : ByteArray)] from rfl) (Reps.one (show Kd.M Kd.string _ _ _ (⟨#[98]⟩ : ByteArray) [.string (⟨#[98]⟩ : ByteArray)] from rfl) (Reps.none _ _))))))); intro v276 w41 ho42 hb hg_ hnew_; clear hg_ hnew_; (first | rw [← Ny275.out] at ho42 | (simp only [Int.reduceToNat] at ho42; rw [← Ny275.out] at ho42)); have n0_ := Aside0.mk (Kd.Q_below (by (with_reducible repeat (first | apply Kd.Q_alloc | apply Kd.Q_drewN | apply Kd.Q_drew)); exact HO_7.out) hb); have n1_ := Aside0.mk (Kd.R_below (by (with_reducible repeat (first | apply Kd.R_alloc | apply Kd.R_drewN | apply Kd.R_drew)); exact HO_10.out) hb); have n2_ := Aside0.mk (Kd.R_lower ho42 (below_size (by repeat (first | (with_reducible first | exact HB.out | apply below_alloc | apply pw_below_drewN | apply below_drew1) | exact HB.out)))); have n3_ := Aside0.mk (below_step (by repeat (first | (with_reducible first | exact HB.out | apply below_alloc | apply pw_below_drewN | apply below_drew1) | exact HB.out)) hb); clear HO_7; clear HO_10; clear HB; have HO_7 := n0_; have HO_10 := n1_; have HO277 := n2_; have HB := n3_; clear n0_ n1_ n2_ n3_; clear hb ho42; obtain ⟨Ao43, co43, eo43⟩ := Kd.R_slice HO277.out; subst eo43; have p278 : 0 ≤ ((ji28) : Int) := of_decide_eq_true (by first | (with_reducible assumption) | assumption); have q278 : (ji28) < (y275.length : Int) := of_decide_eq_true (by first | (with_reducible assumption) | assumption); obtain ⟨ad278, e278, hx278_0⟩ := Kd.at_string (Kd.R_reads' HO277.out).2.2 (ji28) p278 q278; cases e278; replace p278 := eq_true p278; replace q278 := eq_true q278; obtain ⟨Ao44, co44, eo44⟩ := Kd.R_slice HO_10.out; subst eo44) | ((with_reducible refine gate_callee (f := 46) rfl ?_); refine goesL_ (some 88) rfl rfl Try.func46 (by kernel_rfl) rfl #[.slice Ao44 t268.length co44, .string (rdOf ByteArray.empty y275 (ji28))] rfl (by (try simp only [List.map_toArray, List.map_cons, List.map_nil]); first | done | (simp only [hji28]; rfl) | rfl | (simp only [List.length_drop, List.length_take]; rfl)) ?_; (with_reducible refine (impl_StorePut.calls kj8 _ _ t268 (rdOf ByteArray.empty y275 (ji28)) t279 t280 true _ ?side1 ?side2 A31.out).mono ?_); (case side1 => repeat (first | exact (Kd.R_reads' HO_10.out).2.2 | (with_reducible refine Kd.C_alloc ?_ _) | (with_reducible refine Kd.C_drewN ?_ _) | (with_reducible refine Kd.C_drew ?_))); (case side2 => exact (Kd.R_reads' HO_10.out).2.1); rintro e w45 ⟨v282, rfl, ho0, hb⟩; refine ⟨_, rfl, ?_⟩; have n0_ := Aside0.mk (Kd.Q_elder' (by (with_reducible repeat (first | apply Kd.Q_alloc | apply Kd.Q_drewN | apply Kd.Q_drew)); exact HO_7.out) (Kd.R_base ho0) hb); have n1_ := Aside0.mk (Kd.R_elder' (by (with_reducible repeat (first | apply Kd.R_alloc | apply Kd.R_drewN | apply Kd.R_drew)); exact HO_10.out) (Kd.R_base ho0) hb); have n2_ := Aside0.mk (Kd.R_below (by (with_reducible repeat (first | apply Kd.R_alloc | apply Kd.R_drewN | apply Kd.R_drew)); exact HO277.out) hb); have n3_ := Aside0.mk (Kd.R_lower (Kd.R_new' (Kd.R_new' ho0 (Kd.Q_lt (by (with_reducible repeat (first | apply Kd.Q_alloc | apply Kd.Q_drewN | apply Kd.Q_drew)); exact HO_7.out))) (Kd.R_lt (by (with_reducible repeat (first | apply Kd.R_alloc | apply Kd.R_drewN | apply Kd.R_drew)); exact HO_10.out))) (below_size (by repeat (first | (with_reducible first | exact HB.out | apply below_alloc | apply pw_below_drewN | apply below_drew1) | exact HB.out)))); have n4_ := Aside0.mk (below_step (by repeat (first | (with_reducible first | exact HB.out | apply below_alloc | apply pw_below_drewN | apply below_drew1) | exact HB.out)) hb); clear HO_7; clear HO_10; clear HO277; clear HB; have HO_7 := n0_; have HO_10 := n1_; have HO277 := n2_; have HO283 := n3_; have HB := n4_; clear n0_ n1_ n2_ n3_ n4_; (try clear hb); (try clear hb2); (try clear hk); (try clear hi); (try clear ho0); obtain ⟨Ao46, co46, eo46⟩ := Kd.R_slice HO283.out; subst eo46) | ((with_reducible refine gate_callee (f := 27) rfl ?_); refine goesL_ (some 105) rfl rfl Try.func27 (by kernel_rfl) rfl #[.slice Ao46 t279.length co46, .string t260] rfl (by (try simp only [List.map_toArray, List.map_cons, List.map_nil]); first | done | rfl | (simp only [List.length_drop, List.length_take]; rfl)) ?_; (with_reducible refine (impl_StoreFind.calls kj8 _ _ t279 t260 t284 true _ ?side1 ?side2 A33.out).mono ?_); (case side1 => repeat (first | exact (Kd.R_reads' HO283.out).2.2 | (with_reducible refine Kd.C_alloc ?_ _) | (with_reducible refine Kd.C_drewN ?_ _) | (with_reducible refine Kd.C_drew ?_))); (case side2 => exact (Kd.R_reads' HO283.out).2.1); rintro e w47 ⟨rfl, hb⟩; refine ⟨_, rfl, ?_⟩; have n0_ := Aside0.mk (Kd.Q_below (by (with_reducible repeat (first | apply Kd.Q_alloc | apply Kd.Q_drewN | apply Kd.Q_drew)); exact HO_7.out) hb); have n1_ := Aside0.mk (Kd.R_below (by (with_reducible repeat (first | apply Kd.R_alloc | apply Kd.R_drewN | apply Kd.R_drew)); exact HO_10.out) hb); have n2_ := Aside0.mk (Kd.R_below (by (with_reducible repeat (first | apply Kd.R_alloc | apply Kd.R_drewN | apply Kd.R_drew)); exact HO277.out) hb); have n3_ := Aside0.mk (Kd.R_below (by (with_reducible repeat (first | apply Kd.R_alloc | apply Kd.R_drewN | apply Kd.R_drew)); exact HO283.out) hb); have n4_ := Aside0.mk (below_step (by repeat (first | (with_reducible first | exact HB.out | apply below_alloc | apply pw_below_drewN | apply below_drew1) | exact HB.out)) hb); clear HO_7; clear HO_10; clear HO277; clear HO283; clear HB; have HO_7 := n0_; have HO_10 := n1_; have HO277 := n2_; have HO283 := n3_; have HB := n4_; clear n0_ n1_ n2_ n3_ n4_; (try clear hb); (try clear hb2); (try clear hk); (try clear hi)) | ((with_reducible refine gate_callee (f := 27) rfl ?_); refine goesL_ (some 111) rfl rfl Try.func27 (by kernel_rfl) rfl #[.slice Ao46 t279.length co46, .string (rdOf ByteArray.empty y275 (ji28))] rfl (by (try simp only [List.map_toArray, List.map_cons, List.map_nil]); first | done | (simp only [hji28]; rfl) | rfl | (simp only [List.length_drop, List.length_take]; rfl)) ?_; (with_reducible refine (impl_StoreFind.calls kj8 _ _ t279 (rdOf ByteArray.empty y275 (ji28)) t286 true _ ?side1 ?side2 A34.out).mono ?_); (case side1 => repeat (first | exact (Kd.R_reads' HO283.out).2.2 | (with_reducible refine Kd.C_alloc ?_ _) | (with_reducible refine Kd.C_drewN ?_ _) | (with_reducible refine Kd.C_drew ?_))); (case side2 => exact (Kd.R_reads' HO283.out).2.1); rintro e w48 ⟨rfl, hb⟩; refine ⟨_, rfl, ?_⟩; have n0_ := Aside0.mk (Kd.Q_below (by (with_reducible repeat (first | apply Kd.Q_alloc | apply Kd.Q_drewN | apply Kd.Q_drew)); exact HO_7.out) hb); have n1_ := Aside0.mk (Kd.R_below (by (with_reducible repeat (first | apply Kd.R_alloc | apply Kd.R_drewN | apply Kd.R_drew)); exact HO_10.out) hb); have n2_ := Aside0.mk (Kd.R_below (by (with_reducible repeat (first | apply Kd.R_alloc | apply Kd.R_drewN | apply Kd.R_drew)); exact HO277.out) hb); have n3_ := Aside0.mk (Kd.R_below (by (with_reducible repeat (first | apply Kd.R_alloc | apply Kd.R_drewN | apply Kd.R_drew)); exact HO283.out) hb); have n4_ := Aside0.mk (below_step (by repeat (first | (with_reducible first | exact HB.out | apply below_alloc | apply pw_below_drewN | apply below_drew1) | exact HB.out)) hb); clear HO_7; clear HO_10; clear HO277; clear HO283; clear HB; have HO_7 := n0_; have HO_10 := n1_; have HO277 := n2_; have HO283 := n3_; have HB := n4_; clear n0_ n1_ n2_ n3_ n4_; (try clear hb); (try clear hb2); (try clear hk); (try clear hi)) | (go_at_call 22; (with_reducible refine (impl_StoreOk.calls kj8 _ _ t279 t288 _ ?side1 ?side2 A40.out).mono ?_); (case side1 => repeat (first | exact (Kd.R_reads' HO283.out).2.2 | (with_reducible refine Kd.C_alloc ?_ _) | (with_reducible refine Kd.C_drewN ?_ _) | (with_reducible refine Kd.C_drew ?_))); (case side2 => exact (Kd.R_reads' HO283.out).2.1); rintro e w49 ⟨rfl, hb⟩; have n0_ := Aside0.mk (Kd.Q_below (by (with_reducible repeat (first | apply Kd.Q_alloc | apply Kd.Q_drewN | apply Kd.Q_drew)); exact HO_7.out) hb); have n1_ := Aside0.mk (Kd.R_below (by (with_reducible repeat (first | apply Kd.R_alloc | apply Kd.R_drewN | apply Kd.R_drew)); exact HO_10.out) hb); have n2_ := Aside0.mk (Kd.R_below (by (with_reducible repeat (first | apply Kd.R_alloc | apply Kd.R_drewN | apply Kd.R_drew)); exact HO277.out) hb); have n3_ := Aside0.mk (Kd.R_below (by (with_reducible repeat (first | apply Kd.R_alloc | apply Kd.R_drewN | apply Kd.R_drew)); exact HO283.out) hb); have n4_ := Aside0.mk (below_step (by repeat (first | (with_reducible first | exact HB.out | apply below_alloc | apply pw_below_drewN | apply below_drew1) | exact HB.out)) hb); clear HO_7; clear HO_10; clear HO277; clear HO283; clear HB; have HO_7 := n0_; have HO_10 := n1_; have HO277 := n2_; have HO283 := n3_; have HB := n4_; clear n0_ n1_ n2_ n3_ n4_; (try clear hb); (try clear hb2); (try clear hk); (try clear hi)))
                              go_ret
                              exact ⟨by first | rfl | (simp [errW_none, errW_some] <;> rfl) | (simp only [← hji28]; first | rfl | (simp [errW_none, errW_some] <;> rfl)) | (simp [*, errW_none, errW_some] <;> rfl), by repeat (first | (with_reducible first | exact HB.out | apply below_alloc | apply pw_below_drewN | apply below_drew1) | exact HB.out)⟩
                            · rw [if_neg c39] at H
                              have c39b0 : ((t284 == t286) == (t260.toList == (rdOf ByteArray.empty y275 (ji28)).toList)) = false := by simpa using c39
                              (try (have c39b1 : decide ((t284 == t286) = (t260.toList == (rdOf ByteArray.empty y275 (ji28)).toList)) = false := by simpa using c39))
                              (try (have c39b2 : ((t284 == t286) == (t260.toList == (rdOf ByteArray.empty y275 (ji28)).toList)) = false := by simpa using c39))
                              (try (have c39b3 : ¬ ((t284 == t286) = (t260.toList == (rdOf ByteArray.empty y275 (ji28)).toList)) := by simpa using c39))
                              clear c39
                              exact Bool.noConfusion ((Option.some.inj H).trans hr_)
                          · rw [if_neg c38] at H
                            have c38b0 : (t286 == t280) = false := beq_eq_false_iff_ne.mpr c38
                            have c38b1 : (t286 != t280) = true := bne_iff_ne.mpr c38
                            exact Bool.noConfusion ((Option.some.inj H).trans hr_)
                        · rw [if_neg c37] at H
                          have c37b0 : (t284 == t269) = false := beq_eq_false_iff_ne.mpr c37
                          have c37b1 : (t284 != t269) = true := bne_iff_ne.mpr c37
                          exact Bool.noConfusion ((Option.some.inj H).trans hr_)
                      · replace c36 := Bool.eq_false_iff.mpr c36
                        subst c36
                        have H1 : (some false) = some r := by rw [if_neg (show ¬ (false = true) by decide)] at H; exact H
                        clear H
                        have H := H1
                        clear H1
                        exact Bool.noConfusion ((Option.some.inj H).trans hr_)
                    · replace c35 := Bool.eq_false_iff.mpr c35
                      subst c35
                      have H1 : (some false) = some r := by rw [if_neg (show ¬ (false = true) by decide)] at H; exact H
                      clear H
                      have H := H1
                      clear H1
                      exact Bool.noConfusion ((Option.some.inj H).trans hr_)
                  · replace c32 := Bool.eq_false_iff.mpr c32
                    subst c32
                    have H1 : ((impl_StoreFree.f kj8 t268).bind fun t289 => (if t289 = 0 then ((laws_lgSlots.f kj8 t279 t268).bind fun t290 => (some t290)) else (some false))) = some r := by rw [if_neg (show ¬ (false = true) by decide)] at H; exact H
                    clear H
                    have H := H1
                    clear H1
                    replace H := Option.bind_eq_some_iff.mp H
                    obtain ⟨t289, A500, H⟩ := H
                    replace H : (if t289 = 0 then ((laws_lgSlots.f kj8 t279 t268).bind fun t290 => (some t290)) else (some false)) = some r := H
                    have A50 := Aside0.mk A500
                    clear A500
                    by_cases c51 : t289 = 0
                    · rw [if_pos c51] at H
                      have c51b0 : (t289 == 0) = true := beq_iff_eq.mpr c51
                      have c51b1 : (t289 != 0) = false := bne_eq_false_iff_eq.mpr c51
                      clear c51
                      replace H := Option.bind_eq_some_iff.mp H
                      obtain ⟨t290, A520, H⟩ := H
                      replace H : (some t290) = some r := H
                      have A52 := Aside0.mk A520
                      clear A520
                      obtain rfl := Option.some.inj H
                      go_wp2_with (first | ((with_reducible refine gate_dst (N := 79) rfl ?_); (try (refine gate_guard (by rfl) ?_; dsimp only)); refine Kd.R_lit Kd.string _ 9 ?hg (N := 79) ?hd (xs := ([(⟨#[97]⟩ : ByteArray), (⟨#[97, 98]⟩ : ByteArray), (⟨#[99, 99]⟩ : ByteArray), (⟨#[100, 100, 97]⟩ : ByteArray), (⟨#[98]⟩ : ByteArray)] : List ByteArray)) (inner := [.string (⟨#[97]⟩ : ByteArray), .string (⟨#[97, 98]⟩ : ByteArray), .string (⟨#[99, 99]⟩ : ByteArray), .string (⟨#[100, 100, 97]⟩ : ByteArray), .string (⟨#[98]⟩ : ByteArray)]) (ok := fun _ => True) (okp := fun _ => True) ?hr ?hp (fun _ hk => hk) trivial (Below.refl _ _) (Nat.le_refl _) (by simp) ?_; (case hd => rfl); (case hg => rfl); (case hr => first | (go_simp; done) | (go_simp; rfl)); (case hp => exact (Reps.one (show Kd.M Kd.string _ _ _ (⟨#[97]⟩ : ByteArray) [.string (⟨#[97]⟩ : ByteArray)] from rfl) (Reps.one (show Kd.M Kd.string _ _ _ (⟨#[97, 98]⟩ : ByteArray) [.string (⟨#[97, 98]⟩ : ByteArray)] from rfl) (Reps.one (show Kd.M Kd.string _ _ _ (⟨#[99, 99]⟩ : ByteArray) [.string (⟨#[99, 99]⟩ : ByteArray)] from rfl) (Reps.one (show Kd.M Kd.string _ _ _ (⟨#[100, 100, 97]⟩ : ByteArray) [.string (⟨#[100, 100, 97]⟩ : ByteArray)] from rfl) (Reps.one (show Kd.M Kd.string _ _ _ (⟨#[98]⟩ : ByteArray) [.string (⟨#[98]⟩ : ByteArray)] from rfl) (Reps.none _ _))))))); intro v276 w53 ho54 hb hg_ hnew_; clear hg_ hnew_; (first | rw [← Ny275.out] at ho54 | (simp only [Int.reduceToNat] at ho54; rw [← Ny275.out] at ho54)); have n0_ := Aside0.mk (Kd.Q_below (by (with_reducible repeat (first | apply Kd.Q_alloc | apply Kd.Q_drewN | apply Kd.Q_drew)); exact HO_7.out) hb); have n1_ := Aside0.mk (Kd.R_below (by (with_reducible repeat (first | apply Kd.R_alloc | apply Kd.R_drewN | apply Kd.R_drew)); exact HO_10.out) hb); have n2_ := Aside0.mk (Kd.R_lower ho54 (below_size (by repeat (first | (with_reducible first | exact HB.out | apply below_alloc | apply pw_below_drewN | apply below_drew1) | exact HB.out)))); have n3_ := Aside0.mk (below_step (by repeat (first | (with_reducible first | exact HB.out | apply below_alloc | apply pw_below_drewN | apply below_drew1) | exact HB.out)) hb); clear HO_7; clear HO_10; clear HB; have HO_7 := n0_; have HO_10 := n1_; have HO277 := n2_; have HB := n3_; clear n0_ n1_ n2_ n3_; clear hb ho54; obtain ⟨Ao55, co55, eo55⟩ := Kd.R_slice HO277.out; subst eo55; have p278 : 0 ≤ ((ji28) : Int) := of_decide_eq_true (by first | (with_reducible assumption) | assumption); have q278 : (ji28) < (y275.length : Int) := of_decide_eq_true (by first | (with_reducible assumption) | assumption); obtain ⟨ad278, e278, hx278_0⟩ := Kd.at_string (Kd.R_reads' HO277.out).2.2 (ji28) p278 q278; cases e278; replace p278 := eq_true p278; replace q278 := eq_true q278; obtain ⟨Ao56, co56, eo56⟩ := Kd.R_slice HO_10.out; subst eo56) | ((with_reducible refine gate_callee (f := 46) rfl ?_); refine goesL_ (some 88) rfl rfl Try.func46 (by kernel_rfl) rfl #[.slice Ao56 t268.length co56, .string (rdOf ByteArray.empty y275 (ji28))] rfl (by (try simp only [List.map_toArray, List.map_cons, List.map_nil]); first | done | (simp only [hji28]; rfl) | rfl | (simp only [List.length_drop, List.length_take]; rfl)) ?_; (with_reducible refine (impl_StorePut.calls kj8 _ _ t268 (rdOf ByteArray.empty y275 (ji28)) t279 t280 false _ ?side1 ?side2 A31.out).mono ?_); (case side1 => repeat (first | exact (Kd.R_reads' HO_10.out).2.2 | (with_reducible refine Kd.C_alloc ?_ _) | (with_reducible refine Kd.C_drewN ?_ _) | (with_reducible refine Kd.C_drew ?_))); (case side2 => exact (Kd.R_reads' HO_10.out).2.1); rintro e w57 ⟨v282, rfl, ho0, hb⟩; refine ⟨_, rfl, ?_⟩; have n0_ := Aside0.mk (Kd.Q_elder' (by (with_reducible repeat (first | apply Kd.Q_alloc | apply Kd.Q_drewN | apply Kd.Q_drew)); exact HO_7.out) (Kd.R_base ho0) hb); have n1_ := Aside0.mk (Kd.R_elder' (by (with_reducible repeat (first | apply Kd.R_alloc | apply Kd.R_drewN | apply Kd.R_drew)); exact HO_10.out) (Kd.R_base ho0) hb); have n2_ := Aside0.mk (Kd.R_below (by (with_reducible repeat (first | apply Kd.R_alloc | apply Kd.R_drewN | apply Kd.R_drew)); exact HO277.out) hb); have n3_ := Aside0.mk (Kd.R_lower (Kd.R_new' (Kd.R_new' ho0 (Kd.Q_lt (by (with_reducible repeat (first | apply Kd.Q_alloc | apply Kd.Q_drewN | apply Kd.Q_drew)); exact HO_7.out))) (Kd.R_lt (by (with_reducible repeat (first | apply Kd.R_alloc | apply Kd.R_drewN | apply Kd.R_drew)); exact HO_10.out))) (below_size (by repeat (first | (with_reducible first | exact HB.out | apply below_alloc | apply pw_below_drewN | apply below_drew1) | exact HB.out)))); have n4_ := Aside0.mk (below_step (by repeat (first | (with_reducible first | exact HB.out | apply below_alloc | apply pw_below_drewN | apply below_drew1) | exact HB.out)) hb); clear HO_7; clear HO_10; clear HO277; clear HB; have HO_7 := n0_; have HO_10 := n1_; have HO277 := n2_; have HO283 := n3_; have HB := n4_; clear n0_ n1_ n2_ n3_ n4_; (try clear hb); (try clear hb2); (try clear hk); (try clear hi); (try clear ho0)) | ((with_reducible refine gate_callee (f := 25) rfl ?_); refine goesL_ (some 95) rfl rfl Try.func25 (by kernel_rfl) rfl #[.slice Ao56 t268.length co56] rfl (by (try simp only [List.map_toArray, List.map_cons, List.map_nil]); first | done | rfl | (simp only [List.length_drop, List.length_take]; rfl)) ?_; (with_reducible refine (impl_StoreFree.calls kj8 _ _ t268 t289 _ ?side1 ?side2 A50.out).mono ?_); (case side1 => repeat (first | exact (Kd.R_reads' HO_10.out).2.2 | (with_reducible refine Kd.C_alloc ?_ _) | (with_reducible refine Kd.C_drewN ?_ _) | (with_reducible refine Kd.C_drew ?_))); (case side2 => exact (Kd.R_reads' HO_10.out).2.1); rintro e w58 ⟨rfl, hb⟩; refine ⟨_, rfl, ?_⟩; have n0_ := Aside0.mk (Kd.Q_below (by (with_reducible repeat (first | apply Kd.Q_alloc | apply Kd.Q_drewN | apply Kd.Q_drew)); exact HO_7.out) hb); have n1_ := Aside0.mk (Kd.R_below (by (with_reducible repeat (first | apply Kd.R_alloc | apply Kd.R_drewN | apply Kd.R_drew)); exact HO_10.out) hb); have n2_ := Aside0.mk (Kd.R_below (by (with_reducible repeat (first | apply Kd.R_alloc | apply Kd.R_drewN | apply Kd.R_drew)); exact HO277.out) hb); have n3_ := Aside0.mk (Kd.R_below (by (with_reducible repeat (first | apply Kd.R_alloc | apply Kd.R_drewN | apply Kd.R_drew)); exact HO283.out) hb); have n4_ := Aside0.mk (below_step (by repeat (first | (with_reducible first | exact HB.out | apply below_alloc | apply pw_below_drewN | apply below_drew1) | exact HB.out)) hb); clear HO_7; clear HO_10; clear HO277; clear HO283; clear HB; have HO_7 := n0_; have HO_10 := n1_; have HO277 := n2_; have HO283 := n3_; have HB := n4_; clear n0_ n1_ n2_ n3_ n4_; (try clear hb); (try clear hb2); (try clear hk); (try clear hi); obtain ⟨Ao59, co59, eo59⟩ := Kd.R_slice HO283.out; subst eo59) | (go_at_call 43; (with_reducible refine (laws_lgSlots.calls kj8 _ _ t279 _ _ t268 t290 _ ?side1 ?side2 ?side3 ?side4 A52.out).mono ?_); (case side1 => repeat (first | exact (Kd.R_reads' HO283.out).2.2 | (with_reducible refine Kd.C_alloc ?_ _) | (with_reducible refine Kd.C_drewN ?_ _) | (with_reducible refine Kd.C_drew ?_))); (case side2 => exact (Kd.R_reads' HO283.out).2.1); (case side3 => repeat (first | exact (Kd.R_reads' HO_10.out).2.2 | (with_reducible refine Kd.C_alloc ?_ _) | (with_reducible refine Kd.C_drewN ?_ _) | (with_reducible refine Kd.C_drew ?_))); (case side4 => exact (Kd.R_reads' HO_10.out).2.1); rintro e w' ⟨rfl, ⟨nd, rfl⟩⟩))
                      go_ret
                      exact ⟨by first | rfl | (simp [errW_none, errW_some] <;> rfl) | (simp only [← hji28]; first | rfl | (simp [errW_none, errW_some] <;> rfl)) | (simp [*, errW_none, errW_some] <;> rfl), by repeat (first | (with_reducible first | exact HB.out | apply below_alloc | apply pw_below_drewN | apply below_drew1) | exact HB.out)⟩
                    · rw [if_neg c51] at H
                      have c51b0 : (t289 == 0) = false := beq_eq_false_iff_ne.mpr c51
                      have c51b1 : (t289 != 0) = true := bne_iff_ne.mpr c51
                      exact Bool.noConfusion ((Option.some.inj H).trans hr_)
                · rw [if_neg c30] at H
                  exact absurd H (by simp)
              · rw [if_neg c29] at H
                exact absurd H (by simp)

/-- THE ONE PURE STATEMENT of laws_FnPutTwo: yours. -/
def laws_FnPutTwo.Pure : Prop := ∀ (l0 : List Int) (l1 : List Int), l0.length ≤ maxLen → l0.length * 1 ≤ 140737488351232 → (∀ x ∈ l0, (Lit.int .u8 x).wf = true) → l1.length ≤ maxLen → l1.length * 1 ≤ 140737488351232 → (∀ x ∈ l1, (Lit.int .u8 x).wf = true) → ∃ k, laws_FnPutTwo.f k l0 l1 = some true
theorem laws_FnPutTwo.walk (P : laws_FnPutTwo.Pure) (a0 : Option Addr) (len0 cap0 : Nat) (z0 : List Int) (a1 : Option Addr) (len1 cap1 : Nat) (z1 : List Int) (w : World) (w0 : (a0 = none ∧ len0 = 0 ∧ cap0 = 0 ∧ z0 = []) ∨ ∃ x, a0 = some x ∧ len0 ≤ cap0 ∧ cap0 ≤ maxLen ∧ z0.length = cap0 ∧ (∀ i, i < z0.length → w.cell? (x.add i) = some (.int .u8 (z0.getD i 0))) ∧ ∀ n ∈ z0, (Lit.int .u8 n).wf = true) (y0 : len0 * 1 ≤ 140737488351232) (w1 : (a1 = none ∧ len1 = 0 ∧ cap1 = 0 ∧ z1 = []) ∨ ∃ x, a1 = some x ∧ len1 ≤ cap1 ∧ cap1 ≤ maxLen ∧ z1.length = cap1 ∧ (∀ i, i < z1.length → w.cell? (x.add i) = some (.int .u8 (z1.getD i 0))) ∧ ∀ n ∈ z1, (Lit.int .u8 n).wf = true) (y1 : len1 * 1 ≤ 140737488351232) :
    Calls Try.prog 17 #[.slice a0 len0 cap0, .slice a1 len1 cap1] w fun e w' => e = .returned (.bool true) ∧ Below w.heap.size w w' := by
  obtain ⟨l0, rfl, hr0, hm0, hw0, hc0⟩ := ReadsInt.ofRowC w0
  obtain ⟨l1, rfl, hr1, hm1, hw1, hc1⟩ := ReadsInt.ofRowC w1
  obtain ⟨k, h⟩ := P l0 l1 hm0 y0 hw0 hm1 y1 hw1
  refine (laws_FnPutTwo.calls k _ _ l0 _ _ l1 true w (Kd.C_of_reads (d := (0 : Int)) (h1 := fun _ => rfl) hr0) hc0 (Kd.C_of_reads (d := (0 : Int)) (h1 := fun _ => rfl) hr1) hc1 h rfl).mono ?_
  rintro e w' ⟨rfl, hd⟩
  exact ⟨rfl, hd⟩

end Go.Proofs.Ytjdkccpcgmgmmaa.PFnPutTwo
