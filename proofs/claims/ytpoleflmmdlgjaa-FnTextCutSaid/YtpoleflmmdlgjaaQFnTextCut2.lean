/- The walk of FnTextCut, part 2: each function that the law comes to as a plain Lean function, and a proof that the Go code answers so. Lines that the kit's printer wrote, taken over and turned here. -/
import Derived.Test.YtpoleflmmdlgjaaQFnTextCut0
import Derived.Test.YtpoleflmmdlgjaaQFnTextCut1
namespace Go.Proofs.Ytpoleflmmdlgjaa.PFnTextCut
open Go.RowKit Go.Proofs.YtpoleflmmdlgjaaW.PrintWords Go.Proofs.YtpoleflmmdlgjaaW.PrintLast Go.Proofs.YtpoleflmmdlgjaaW.PrintMore
attribute [local go_sem] max2_int min2_int max_two min_two max_three min_three max_four min_four   -- for this text's walks alone
set_option linter.unusedVariables false
set_option linter.unusedSimpArgs false

/-! ### laws_FnTextCut: function 9 -/
mutual
def laws_FnTextCut.j0 : Nat → List Int → List Int → Bool → Option (Bool)
  | 0, _, _, _ => none
  | k + 1, x0, x1, x15 => if x15 = true then (some true) else ((spec_DrawTextOk.f k x0).bind fun t138 => ((impl_TextOk.f k t138).bind fun t139 => ((spec_TextOk.f k t138).bind fun t140 => (if (t139 != t140) = true then (laws_FnTextCut.j1 k x1 t138 t139 true) else (laws_FnTextCut.j1 k x1 t138 t139 (!t139))))))
def laws_FnTextCut.j1 : Nat → List Int → ByteArray → Bool → Bool → Option (Bool)
  | 0, _, _, _, _ => none
  | k + 1, x1, x5, x6, x27 => if x27 = true then ((spec_TextOk.f k x5).bind fun t141 => (some (x6 == t141))) else (if (wrap64 ((x5.size : Int) + 1)) = 0 then (none) else (if 0 ≤ ((x1.length : Int) % (wrap64 ((x5.size : Int) + 1))) then (if ((x1.length : Int) % (wrap64 ((x5.size : Int) + 1))) ≤ (x5.size : Int) then ((impl_TextOk.f k (x5.extract 0 (((x1.length : Int) % (wrap64 ((x5.size : Int) + 1))) : Int).toNat)).bind fun t142 => (if t142 = true then ((impl_TextOk.f k (x5.extract (((x1.length : Int) % (wrap64 ((x5.size : Int) + 1))) : Int).toNat x5.size)).bind fun t143 => (if t143 = true then (if x5.size + 1 ≤ 9223372036854775807 then ((impl_TextOk.f k (x5 ++ (⟨#[101]⟩ : ByteArray))).bind fun t144 => (if t144 = true then (some false) else (if (x5.extract 0 (((x1.length : Int) % (wrap64 ((x5.size : Int) + 1))) : Int).toNat).size + 1 ≤ 9223372036854775807 then ((impl_TextOk.f k ((x5.extract 0 (((x1.length : Int) % (wrap64 ((x5.size : Int) + 1))) : Int).toNat) ++ (⟨#[32]⟩ : ByteArray))).bind fun t145 => (if t145 = true then (some false) else (if 5 + x5.size ≤ 9223372036854775807 then ((impl_TextOk.f k ((⟨#[97, 97, 97, 97, 97]⟩ : ByteArray) ++ x5)).bind fun t146 => (some (!t146))) else (none)))) else (none)))) else (none)) else (some false))) else (some false))) else (none)) else (none)))
end
def laws_FnTextCut.f (k : Nat) (l0 : List Int) (l1 : List Int) : Option (Bool) := if (l0.length : Int) > 1048576 then (laws_FnTextCut.j0 k l0 l1 true) else (laws_FnTextCut.j0 k l0 l1 (decide ((l1.length : Int) > 1048576)))
theorem laws_FnTextCut.mono_l : ∀ k, (∀ y0 y1 y2, LeO (laws_FnTextCut.j0 k y0 y1 y2) (laws_FnTextCut.j0 (k + 1) y0 y1 y2)) ∧ (∀ y0 y1 y2 y3, LeO (laws_FnTextCut.j1 k y0 y1 y2 y3) (laws_FnTextCut.j1 (k + 1) y0 y1 y2 y3))
  | 0 => ⟨fun _ _ _ r h => by simp [laws_FnTextCut.j0] at h, fun _ _ _ _ r h => by simp [laws_FnTextCut.j1] at h⟩
  | k + 1 => by
    obtain ⟨ih0, ih1⟩ := laws_FnTextCut.mono_l k
    refine ⟨?_, ?_⟩
    · intro y0 y1 y2
      unfold laws_FnTextCut.j0
      repeat' first
      | (with_reducible exact ih0 _ _ _)
      | (with_reducible exact ih1 _ _ _ _)
      | (with_reducible exact impl_TextOk.mono _ _)
      | (with_reducible exact spec_DrawTextOk.mono _ _)
      | (with_reducible exact spec_TextOk.mono _ _)
      | (with_reducible exact LeO.refl _)
      | (with_reducible exact LeO.none _)
      | (with_reducible refine LeO.ite ?_ ?_)
      | (with_reducible refine LeO.bind ?_ (fun _ => ?_))
      | exact ih0 _ _ _
      | exact ih1 _ _ _ _
      | exact impl_TextOk.mono _ _
      | exact spec_DrawTextOk.mono _ _
      | exact spec_TextOk.mono _ _
      | exact LeO.none _
      | refine LeO.ite ?_ ?_
      | refine LeO.bind ?_ (fun _ => ?_)
    · intro y0 y1 y2 y3
      unfold laws_FnTextCut.j1
      repeat' first
      | (with_reducible exact ih0 _ _ _)
      | (with_reducible exact ih1 _ _ _ _)
      | (with_reducible exact impl_TextOk.mono _ _)
      | (with_reducible exact spec_DrawTextOk.mono _ _)
      | (with_reducible exact spec_TextOk.mono _ _)
      | (with_reducible exact LeO.refl _)
      | (with_reducible exact LeO.none _)
      | (with_reducible refine LeO.ite ?_ ?_)
      | (with_reducible refine LeO.bind ?_ (fun _ => ?_))
      | exact ih0 _ _ _
      | exact ih1 _ _ _ _
      | exact impl_TextOk.mono _ _
      | exact spec_DrawTextOk.mono _ _
      | exact spec_TextOk.mono _ _
      | exact LeO.none _
      | refine LeO.ite ?_ ?_
      | refine LeO.bind ?_ (fun _ => ?_)
theorem laws_FnTextCut.mono : ∀ a0 a1 k, LeO (laws_FnTextCut.f k a0 a1) (laws_FnTextCut.f (k + 1) a0 a1) := by
  intro a0 a1 k
  obtain ⟨ih0, ih1⟩ := laws_FnTextCut.mono_l k
  unfold laws_FnTextCut.f
  repeat' first
      | (with_reducible exact ih0 _ _ _)
      | (with_reducible exact ih1 _ _ _ _)
      | (with_reducible exact impl_TextOk.mono _ _)
      | (with_reducible exact spec_DrawTextOk.mono _ _)
      | (with_reducible exact spec_TextOk.mono _ _)
      | (with_reducible exact LeO.refl _)
      | (with_reducible exact LeO.none _)
      | (with_reducible refine LeO.ite ?_ ?_)
      | (with_reducible refine LeO.bind ?_ (fun _ => ?_))
      | exact ih0 _ _ _
      | exact ih1 _ _ _ _
      | exact impl_TextOk.mono _ _
      | exact spec_DrawTextOk.mono _ _
      | exact spec_TextOk.mono _ _
      | exact LeO.none _
      | refine LeO.ite ?_ ?_
      | refine LeO.bind ?_ (fun _ => ?_)
set_option maxHeartbeats 8000000 in
set_option maxRecDepth 100000 in
theorem laws_FnTextCut.calls (k : Nat) (A0 : Option Addr) (c0 : Nat) (l0 : List Int) (A1 : Option Addr) (c1 : Nat) (l1 : List Int) (r : Bool) (w : World) (hr0 : Kd.C (Kd.int .u8) w A0 l0.length l0) (hc0 : l0.length ≤ c0) (hr1 : Kd.C (Kd.int .u8) w A1 l1.length l1) (hc1 : l1.length ≤ c1) (h : laws_FnTextCut.f k l0 l1 = some r) :
    Calls Try.prog 9 #[.slice A0 l0.length c0, .slice A1 l1.length c1] w fun e w' => e = .returned (.bool r) ∧ Below w.heap.size w w' := by
  have HR0 := Aside0.mk hr0
  have HC0 := Aside0.mk hc0
  clear hr0 hc0
  have HR1 := Aside0.mk hr1
  have HC1 := Aside0.mk hc1
  clear hr1 hc1
  have HB := Aside0.mk (Below.refl w.heap.size w)
  have H : (if (l0.length : Int) > 1048576 then (laws_FnTextCut.j0 k l0 l1 true) else (laws_FnTextCut.j0 k l0 l1 (decide ((l1.length : Int) > 1048576)))) = some r := h
  clear h
  have HC3 := Aside0.mk H
  clear H
  go_enter Try.func9, Try.ntmps9
  go_upto_region 1 with (fail)
  go_cut [15] (fun v15 wc => ∃ (kq : Nat) (x15_2 : Bool), v15 = .bool x15_2 ∧ Aside0 (laws_FnTextCut.j0 kq l0 l1 x15_2 = some r) ∧ Aside0 (kq ≤ k) ∧ Aside0 (Below w.heap.size w wc))
  case first =>
    have H := HC3.out
    clear HC3
    by_cases c4 : (l0.length : Int) > 1048576
    · rw [if_pos c4] at H
      have c4b0 : decide (1048576 < (l0.length : Int)) = true := decide_eq_true c4
      have c4b1 : decide (1048576 < l0.length) = true := decide_eq_true (by omega)
      clear c4
      (first | rw [c4b0] | (simp only [i64_w, i32_w]; rw [c4b0]) | skip)
      have H' := Aside0.mk H
      clear H
      go_wp2
      go_meet
      case rel => exact ⟨_, (true), (by first | rfl | (simp; done) | (simp [*]; done)), H', ⟨by first | omega | exact Nat.le_refl _⟩, ⟨by repeat (first | (with_reducible first | exact HB.out | apply below_alloc | apply pw_below_drewN | apply below_drew1) | exact HB.out)⟩⟩
    · rw [if_neg c4] at H
      have c4b0 : decide (1048576 < (l0.length : Int)) = false := decide_eq_false c4
      have c4b1 : decide (1048576 < l0.length) = false := decide_eq_false (by omega)
      clear c4
      (first | rw [c4b0] | (simp only [i64_w, i32_w]; rw [c4b0]) | skip)
      have H' := Aside0.mk H
      clear H
      go_wp2
      go_meet
      case rel => exact ⟨_, (decide ((l1.length : Int) > 1048576)), (by first | rfl | (simp; done) | (simp [*]; done)), H', ⟨by first | omega | exact Nat.le_refl _⟩, ⟨by repeat (first | (with_reducible first | exact HB.out | apply below_alloc | apply pw_below_drewN | apply below_drew1) | exact HB.out)⟩⟩
  case rest =>
    clear HC3
    try clear c1
    try clear p2
    try clear c4
    try clear c4b0
    try clear c4b1
    obtain ⟨kq, x15_2, rfl, HA, HJ2, HB⟩ := hcut
    cases kq with
    | zero => exact absurd HA.out (by simp [laws_FnTextCut.j0])
    | succ kj2 =>
      have H := HA.out
      clear HA
      simp only [laws_FnTextCut.j0] at H
      by_cases c5 : x15_2 = true
      · subst c5
        have H1 : (some true) = some r := by rw [if_pos rfl] at H; exact H
        clear H
        have H := H1
        clear H1
        obtain rfl := Option.some.inj H
        go_wp2
        go_ret
        exact ⟨by first | rfl | (simp [errW_none, errW_some] <;> rfl) | (simp [*, errW_none, errW_some] <;> rfl), by repeat (first | (with_reducible first | exact HB.out | apply below_alloc | apply pw_below_drewN | apply below_drew1) | exact HB.out)⟩
      · replace c5 := Bool.eq_false_iff.mpr c5
        subst c5
        have H1 : ((spec_DrawTextOk.f kj2 l0).bind fun t138 => ((impl_TextOk.f kj2 t138).bind fun t139 => ((spec_TextOk.f kj2 t138).bind fun t140 => (if (t139 != t140) = true then (laws_FnTextCut.j1 kj2 l1 t138 t139 true) else (laws_FnTextCut.j1 kj2 l1 t138 t139 (!t139)))))) = some r := by rw [if_neg (show ¬ (false = true) by decide)] at H; exact H
        clear H
        have H := H1
        clear H1
        replace H := Option.bind_eq_some_iff.mp H
        obtain ⟨t138, A60, H⟩ := H
        replace H : ((impl_TextOk.f kj2 t138).bind fun t139 => ((spec_TextOk.f kj2 t138).bind fun t140 => (if (t139 != t140) = true then (laws_FnTextCut.j1 kj2 l1 t138 t139 true) else (laws_FnTextCut.j1 kj2 l1 t138 t139 (!t139))))) = some r := H
        have A6 := Aside0.mk A60
        clear A60
        replace H := Option.bind_eq_some_iff.mp H
        obtain ⟨t139, A70, H⟩ := H
        replace H : ((spec_TextOk.f kj2 t138).bind fun t140 => (if (t139 != t140) = true then (laws_FnTextCut.j1 kj2 l1 t138 t139 true) else (laws_FnTextCut.j1 kj2 l1 t138 t139 (!t139)))) = some r := H
        have A7 := Aside0.mk A70
        clear A70
        have HC8 := Aside0.mk H
        clear H
        go_upto_region 5 with (first | ((with_reducible refine gate_callee (f := 30) rfl ?_); refine goesL_ (some 17) rfl rfl Try.func30 (by kernel_rfl) rfl #[.slice A0 l0.length c0] rfl (by (try simp only [List.map_toArray, List.map_cons, List.map_nil]); first | done | rfl | (simp only [List.length_drop, List.length_take]; rfl)) ?_; (with_reducible refine (spec_DrawTextOk.calls kj2 _ _ l0 t138 _ ?side1 ?side2 A6.out).mono ?_); (case side1 => repeat (first | exact (Kd.C_below HR0.out HB.out) | (with_reducible refine Kd.C_alloc ?_ _) | (with_reducible refine Kd.C_drewN ?_ _) | (with_reducible refine Kd.C_drew ?_))); (case side2 => exact HC0.out); rintro e w9 ⟨rfl, hb⟩; refine ⟨_, rfl, ?_⟩; have n0_ := Aside0.mk (below_step (by repeat (first | (with_reducible first | exact HB.out | apply below_alloc | apply pw_below_drewN | apply below_drew1) | exact HB.out)) hb); clear HB; have HB := n0_; clear n0_; (try clear hb); (try clear hb2); (try clear hk); (try clear hi)) | ((with_reducible refine gate_callee (f := 19) rfl ?_); refine goesL_ (some 19) rfl rfl Try.func19 (by kernel_rfl) rfl #[.string t138] rfl (by (try simp only [List.map_toArray, List.map_cons, List.map_nil]); first | done | rfl | (simp only [List.length_drop, List.length_take]; rfl)) ?_; (with_reducible refine (impl_TextOk.calls kj2 t138 t139 _ A7.out).mono ?_); rintro e w' ⟨rfl, ⟨nd, rfl⟩⟩; refine ⟨_, rfl, ?_⟩))
        (try simp only [Act.put, List.setIfInBounds_toArray, List.set_cons_zero, List.set_cons_succ])
        go_cut [27] (fun v27 wc => ∃ (kq : Nat) (x27_7 : Bool), v27 = .bool x27_7 ∧ Aside0 (laws_FnTextCut.j1 kq l1 t138 t139 x27_7 = some r) ∧ Aside0 (kq ≤ kj2) ∧ Aside0 (Below w.heap.size w wc))
        case first =>
          have H := HC8.out
          clear HC8
          replace H := Option.bind_eq_some_iff.mp H
          obtain ⟨t140, A100, H⟩ := H
          replace H : (if (t139 != t140) = true then (laws_FnTextCut.j1 kj2 l1 t138 t139 true) else (laws_FnTextCut.j1 kj2 l1 t138 t139 (!t139))) = some r := H
          have A10 := Aside0.mk A100
          clear A100
          by_cases c11 : (t139 != t140) = true
          · rw [if_pos c11] at H
            have c11b0 : (t139 != t140) = true := c11
            (try (have c11b1 : decide (t139 = t140) = false := by simpa using c11))
            (try (have c11b2 : (t139 == t140) = false := by simpa using c11))
            (try (have c11b3 : ¬ (t139 = t140) := by simpa using c11))
            clear c11
            (first | rw [c11b0] | (simp only [i64_w, i32_w]; rw [c11b0]) | skip)
            have H' := Aside0.mk H
            clear H
            go_wp2_with (first | ((with_reducible refine gate_callee (f := 18) rfl ?_); refine goesL_ (some 22) rfl rfl Try.func18 (by kernel_rfl) rfl #[.string t138] rfl (by (try simp only [List.map_toArray, List.map_cons, List.map_nil]); first | done | rfl | (simp only [List.length_drop, List.length_take]; rfl)) ?_; (with_reducible refine (spec_TextOk.calls kj2 t138 t140 _ A10.out).mono ?_); rintro e w' ⟨rfl, ⟨nd, rfl⟩⟩; refine ⟨_, rfl, ?_⟩))
            go_meet
            case rel => exact ⟨_, (true), (by first | rfl | (simp; done) | (simp [*]; done)), H', ⟨by have := HJ2.out; first | omega | exact Nat.le_refl _⟩, ⟨by repeat (first | (with_reducible first | exact HB.out | apply below_alloc | apply pw_below_drewN | apply below_drew1) | exact HB.out)⟩⟩
          · rw [if_neg c11] at H
            have c11b0 : (t139 != t140) = false := by simpa using c11
            (try (have c11b1 : decide (t139 = t140) = true := by simpa using c11))
            (try (have c11b2 : (t139 == t140) = true := by simpa using c11))
            clear c11
            (first | rw [c11b0] | (simp only [i64_w, i32_w]; rw [c11b0]) | skip)
            have H' := Aside0.mk H
            clear H
            go_wp2_with (first | ((with_reducible refine gate_callee (f := 18) rfl ?_); refine goesL_ (some 22) rfl rfl Try.func18 (by kernel_rfl) rfl #[.string t138] rfl (by (try simp only [List.map_toArray, List.map_cons, List.map_nil]); first | done | rfl | (simp only [List.length_drop, List.length_take]; rfl)) ?_; (with_reducible refine (spec_TextOk.calls kj2 t138 t140 _ A10.out).mono ?_); rintro e w' ⟨rfl, ⟨nd, rfl⟩⟩; refine ⟨_, rfl, ?_⟩))
            go_meet
            case rel => exact ⟨_, (!t139), (by first | rfl | (simp; done) | (simp [*]; done)), H', ⟨by have := HJ2.out; first | omega | exact Nat.le_refl _⟩, ⟨by repeat (first | (with_reducible first | exact HB.out | apply below_alloc | apply pw_below_drewN | apply below_drew1) | exact HB.out)⟩⟩
        case rest =>
          clear HC8
          try clear c1
          try clear p2
          try clear c3
          try clear c4
          try clear c4b0
          try clear c4b1
          try clear c5
          try clear c9
          try clear c11
          try clear c11b0
          try clear c11b1
          try clear c11b2
          try clear p2
          obtain ⟨kq, x27_7, rfl, HA, HJ7, HB⟩ := hcut
          cases kq with
          | zero => exact absurd HA.out (by simp [laws_FnTextCut.j1])
          | succ kj7 =>
            have H := HA.out
            clear HA
            simp only [laws_FnTextCut.j1] at H
            by_cases c12 : x27_7 = true
            · subst c12
              have H1 : ((spec_TextOk.f kj7 t138).bind fun t141 => (some (t139 == t141))) = some r := by rw [if_pos rfl] at H; exact H
              clear H
              have H := H1
              clear H1
              replace H := Option.bind_eq_some_iff.mp H
              obtain ⟨t141, A130, H⟩ := H
              replace H : (some (t139 == t141)) = some r := H
              have A13 := Aside0.mk A130
              clear A130
              obtain rfl := Option.some.inj H
              go_wp2_with (first | ((with_reducible refine gate_callee (f := 18) rfl ?_); refine goesL_ (some 30) rfl rfl Try.func18 (by kernel_rfl) rfl #[.string t138] rfl (by (try simp only [List.map_toArray, List.map_cons, List.map_nil]); first | done | rfl | (simp only [List.length_drop, List.length_take]; rfl)) ?_; (with_reducible refine (spec_TextOk.calls kj7 t138 t141 _ A13.out).mono ?_); rintro e w' ⟨rfl, ⟨nd, rfl⟩⟩; refine ⟨_, rfl, ?_⟩))
              go_ret
              exact ⟨by first | rfl | (simp [errW_none, errW_some] <;> rfl) | (simp [*, errW_none, errW_some] <;> rfl), by repeat (first | (with_reducible first | exact HB.out | apply below_alloc | apply pw_below_drewN | apply below_drew1) | exact HB.out)⟩
            · replace c12 := Bool.eq_false_iff.mpr c12
              subst c12
              have H1 : (if (wrap64 ((t138.size : Int) + 1)) = 0 then (none) else (if 0 ≤ ((l1.length : Int) % (wrap64 ((t138.size : Int) + 1))) then (if ((l1.length : Int) % (wrap64 ((t138.size : Int) + 1))) ≤ (t138.size : Int) then ((impl_TextOk.f kj7 (t138.extract 0 (((l1.length : Int) % (wrap64 ((t138.size : Int) + 1))) : Int).toNat)).bind fun t142 => (if t142 = true then ((impl_TextOk.f kj7 (t138.extract (((l1.length : Int) % (wrap64 ((t138.size : Int) + 1))) : Int).toNat t138.size)).bind fun t143 => (if t143 = true then (if t138.size + 1 ≤ 9223372036854775807 then ((impl_TextOk.f kj7 (t138 ++ (⟨#[101]⟩ : ByteArray))).bind fun t144 => (if t144 = true then (some false) else (if (t138.extract 0 (((l1.length : Int) % (wrap64 ((t138.size : Int) + 1))) : Int).toNat).size + 1 ≤ 9223372036854775807 then ((impl_TextOk.f kj7 ((t138.extract 0 (((l1.length : Int) % (wrap64 ((t138.size : Int) + 1))) : Int).toNat) ++ (⟨#[32]⟩ : ByteArray))).bind fun t145 => (if t145 = true then (some false) else (if 5 + t138.size ≤ 9223372036854775807 then ((impl_TextOk.f kj7 ((⟨#[97, 97, 97, 97, 97]⟩ : ByteArray) ++ t138)).bind fun t146 => (some (!t146))) else (none)))) else (none)))) else (none)) else (some false))) else (some false))) else (none)) else (none))) = some r := by rw [if_neg (show ¬ (false = true) by decide)] at H; exact H
              clear H
              have H := H1
              clear H1
              by_cases c14 : (wrap64 ((t138.size : Int) + 1)) = 0
              · rw [if_pos c14] at H
                exact absurd H (by simp)
              · rw [if_neg c14] at H
                have c14b0 : ((wrap64 ((t138.size : Int) + 1)) == 0) = false := beq_eq_false_iff_ne.mpr c14
                have c14b1 : ((wrap64 ((t138.size : Int) + 1)) != 0) = true := bne_iff_ne.mpr c14
                obtain ⟨ji15, hji15⟩ : ∃ j_ : Int, ((l1.length : Int) % (wrap64 ((t138.size : Int) + 1))) = j_ := ⟨_, rfl⟩
                replace H : (if 0 ≤ (ji15) then (if (ji15) ≤ (t138.size : Int) then ((impl_TextOk.f kj7 (t138.extract 0 ((ji15) : Int).toNat)).bind fun t142 => (if t142 = true then ((impl_TextOk.f kj7 (t138.extract ((ji15) : Int).toNat t138.size)).bind fun t143 => (if t143 = true then (if t138.size + 1 ≤ 9223372036854775807 then ((impl_TextOk.f kj7 (t138 ++ (⟨#[101]⟩ : ByteArray))).bind fun t144 => (if t144 = true then (some false) else (if (t138.extract 0 ((ji15) : Int).toNat).size + 1 ≤ 9223372036854775807 then ((impl_TextOk.f kj7 ((t138.extract 0 ((ji15) : Int).toNat) ++ (⟨#[32]⟩ : ByteArray))).bind fun t145 => (if t145 = true then (some false) else (if 5 + t138.size ≤ 9223372036854775807 then ((impl_TextOk.f kj7 ((⟨#[97, 97, 97, 97, 97]⟩ : ByteArray) ++ t138)).bind fun t146 => (some (!t146))) else (none)))) else (none)))) else (none)) else (some false))) else (some false))) else (none)) else (none)) = some r := by first | (rw [hji15] at H; exact H) | (simp only [hji15] at H ⊢; exact H)
                by_cases c16 : 0 ≤ (ji15)
                · rw [if_pos c16] at H
                  have c16b0 := eq_true c16
                  have c16b1 : decide (0 ≤ (ji15)) = true := decide_eq_true c16
                  clear c16
                  by_cases c17 : (ji15) ≤ (t138.size : Int)
                  · rw [if_pos c17] at H
                    have c17b0 := eq_true c17
                    have c17b1 : decide ((ji15) ≤ (t138.size : Int)) = true := decide_eq_true c17
                    clear c17
                    replace H := Option.bind_eq_some_iff.mp H
                    obtain ⟨t142, A180, H⟩ := H
                    replace H : (if t142 = true then ((impl_TextOk.f kj7 (t138.extract ((ji15) : Int).toNat t138.size)).bind fun t143 => (if t143 = true then (if t138.size + 1 ≤ 9223372036854775807 then ((impl_TextOk.f kj7 (t138 ++ (⟨#[101]⟩ : ByteArray))).bind fun t144 => (if t144 = true then (some false) else (if (t138.extract 0 ((ji15) : Int).toNat).size + 1 ≤ 9223372036854775807 then ((impl_TextOk.f kj7 ((t138.extract 0 ((ji15) : Int).toNat) ++ (⟨#[32]⟩ : ByteArray))).bind fun t145 => (if t145 = true then (some false) else (if 5 + t138.size ≤ 9223372036854775807 then ((impl_TextOk.f kj7 ((⟨#[97, 97, 97, 97, 97]⟩ : ByteArray) ++ t138)).bind fun t146 => (some (!t146))) else (none)))) else (none)))) else (none)) else (some false))) else (some false)) = some r := H
                    have A18 := Aside0.mk A180
                    clear A180
                    by_cases c19 : t142 = true
                    · subst c19
                      have H1 : ((impl_TextOk.f kj7 (t138.extract ((ji15) : Int).toNat t138.size)).bind fun t143 => (if t143 = true then (if t138.size + 1 ≤ 9223372036854775807 then ((impl_TextOk.f kj7 (t138 ++ (⟨#[101]⟩ : ByteArray))).bind fun t144 => (if t144 = true then (some false) else (if (t138.extract 0 ((ji15) : Int).toNat).size + 1 ≤ 9223372036854775807 then ((impl_TextOk.f kj7 ((t138.extract 0 ((ji15) : Int).toNat) ++ (⟨#[32]⟩ : ByteArray))).bind fun t145 => (if t145 = true then (some false) else (if 5 + t138.size ≤ 9223372036854775807 then ((impl_TextOk.f kj7 ((⟨#[97, 97, 97, 97, 97]⟩ : ByteArray) ++ t138)).bind fun t146 => (some (!t146))) else (none)))) else (none)))) else (none)) else (some false))) = some r := by rw [if_pos rfl] at H; exact H
                      clear H
                      have H := H1
                      clear H1
                      have c20b0 := eq_true (of_decide_eq_true (by first | (with_reducible assumption) | assumption) : 0 ≤ (ji15))
                      have c21b0 := eq_true (of_decide_eq_true (by first | (with_reducible assumption) | assumption) : (ji15) ≤ (t138.size : Int))
                      replace H := Option.bind_eq_some_iff.mp H
                      obtain ⟨t143, A220, H⟩ := H
                      replace H : (if t143 = true then (if t138.size + 1 ≤ 9223372036854775807 then ((impl_TextOk.f kj7 (t138 ++ (⟨#[101]⟩ : ByteArray))).bind fun t144 => (if t144 = true then (some false) else (if (t138.extract 0 ((ji15) : Int).toNat).size + 1 ≤ 9223372036854775807 then ((impl_TextOk.f kj7 ((t138.extract 0 ((ji15) : Int).toNat) ++ (⟨#[32]⟩ : ByteArray))).bind fun t145 => (if t145 = true then (some false) else (if 5 + t138.size ≤ 9223372036854775807 then ((impl_TextOk.f kj7 ((⟨#[97, 97, 97, 97, 97]⟩ : ByteArray) ++ t138)).bind fun t146 => (some (!t146))) else (none)))) else (none)))) else (none)) else (some false)) = some r := H
                      have A22 := Aside0.mk A220
                      clear A220
                      by_cases c23 : t143 = true
                      · subst c23
                        have H1 : (if t138.size + 1 ≤ 9223372036854775807 then ((impl_TextOk.f kj7 (t138 ++ (⟨#[101]⟩ : ByteArray))).bind fun t144 => (if t144 = true then (some false) else (if (t138.extract 0 ((ji15) : Int).toNat).size + 1 ≤ 9223372036854775807 then ((impl_TextOk.f kj7 ((t138.extract 0 ((ji15) : Int).toNat) ++ (⟨#[32]⟩ : ByteArray))).bind fun t145 => (if t145 = true then (some false) else (if 5 + t138.size ≤ 9223372036854775807 then ((impl_TextOk.f kj7 ((⟨#[97, 97, 97, 97, 97]⟩ : ByteArray) ++ t138)).bind fun t146 => (some (!t146))) else (none)))) else (none)))) else (none)) = some r := by rw [if_pos rfl] at H; exact H
                        clear H
                        have H := H1
                        clear H1
                        by_cases c24 : t138.size + 1 ≤ 9223372036854775807
                        · rw [if_pos c24] at H
                          have c24b0 := eq_true c24
                          have c24b1 : decide (t138.size + 1 ≤ 9223372036854775807) = true := decide_eq_true c24
                          try have c24b2 : (9223372036854775807 < t138.size + 1) = False := eq_false (Nat.not_lt.2 c24)
                          clear c24
                          replace H := Option.bind_eq_some_iff.mp H
                          obtain ⟨t144, A250, H⟩ := H
                          replace H : (if t144 = true then (some false) else (if (t138.extract 0 ((ji15) : Int).toNat).size + 1 ≤ 9223372036854775807 then ((impl_TextOk.f kj7 ((t138.extract 0 ((ji15) : Int).toNat) ++ (⟨#[32]⟩ : ByteArray))).bind fun t145 => (if t145 = true then (some false) else (if 5 + t138.size ≤ 9223372036854775807 then ((impl_TextOk.f kj7 ((⟨#[97, 97, 97, 97, 97]⟩ : ByteArray) ++ t138)).bind fun t146 => (some (!t146))) else (none)))) else (none))) = some r := H
                          have A25 := Aside0.mk A250
                          clear A250
                          by_cases c26 : t144 = true
                          · subst c26
                            have H1 : (some false) = some r := by rw [if_pos rfl] at H; exact H
                            clear H
                            have H := H1
                            clear H1
                            obtain rfl := Option.some.inj H
                            go_wp2_with (first | ((with_reducible refine gate_callee (f := 19) rfl ?_); refine goesL_ (some 41) rfl rfl Try.func19 (by kernel_rfl) rfl #[.string (t138.extract 0 ((ji15) : Int).toNat)] rfl (by (try simp only [List.map_toArray, List.map_cons, List.map_nil]); first | done | (simp only [hji15]; rfl) | rfl | (simp only [List.length_drop, List.length_take]; rfl)) ?_; (with_reducible refine (impl_TextOk.calls kj7 (t138.extract 0 ((ji15) : Int).toNat) true _ A18.out).mono ?_); rintro e w' ⟨rfl, ⟨nd, rfl⟩⟩; refine ⟨_, rfl, ?_⟩) | (go_at_call 19; (with_reducible refine (impl_TextOk.calls kj7 (t138.extract ((ji15) : Int).toNat t138.size) true _ A22.out).mono ?_); rintro e w' ⟨rfl, ⟨nd, rfl⟩⟩) | (go_at_call 19; (with_reducible refine (impl_TextOk.calls kj7 (t138 ++ (⟨#[101]⟩ : ByteArray)) true _ A25.out).mono ?_); rintro e w' ⟨rfl, ⟨nd, rfl⟩⟩))
                            go_ret
                            exact ⟨by first | rfl | (simp [errW_none, errW_some] <;> rfl) | (simp only [← hji15]; first | rfl | (simp [errW_none, errW_some] <;> rfl)) | (simp [*, errW_none, errW_some] <;> rfl), by repeat (first | (with_reducible first | exact HB.out | apply below_alloc | apply pw_below_drewN | apply below_drew1) | exact HB.out)⟩
                          · replace c26 := Bool.eq_false_iff.mpr c26
                            subst c26
                            have H1 : (if (t138.extract 0 ((ji15) : Int).toNat).size + 1 ≤ 9223372036854775807 then ((impl_TextOk.f kj7 ((t138.extract 0 ((ji15) : Int).toNat) ++ (⟨#[32]⟩ : ByteArray))).bind fun t145 => (if t145 = true then (some false) else (if 5 + t138.size ≤ 9223372036854775807 then ((impl_TextOk.f kj7 ((⟨#[97, 97, 97, 97, 97]⟩ : ByteArray) ++ t138)).bind fun t146 => (some (!t146))) else (none)))) else (none)) = some r := by rw [if_neg (show ¬ (false = true) by decide)] at H; exact H
                            clear H
                            have H := H1
                            clear H1
                            have c27b0 := eq_true (of_decide_eq_true (by first | (with_reducible assumption) | assumption) : 0 ≤ (ji15))
                            have c28b0 := eq_true (of_decide_eq_true (by first | (with_reducible assumption) | assumption) : (ji15) ≤ (t138.size : Int))
                            by_cases c29 : (t138.extract 0 ((ji15) : Int).toNat).size + 1 ≤ 9223372036854775807
                            · rw [if_pos c29] at H
                              have c29b0 := eq_true c29
                              have c29b1 : decide ((t138.extract 0 ((ji15) : Int).toNat).size + 1 ≤ 9223372036854775807) = true := decide_eq_true c29
                              try have c29b2 : (9223372036854775807 < (t138.extract 0 ((ji15) : Int).toNat).size + 1) = False := eq_false (Nat.not_lt.2 c29)
                              have c29b3 : (9223372036854775807 < ji15.toNat + 1) = False := eq_false (by have q1 := of_decide_eq_true c17b1; have q2 := of_decide_eq_true c24b1; omega)
                              clear c29
                              replace H := Option.bind_eq_some_iff.mp H
                              obtain ⟨t145, A300, H⟩ := H
                              replace H : (if t145 = true then (some false) else (if 5 + t138.size ≤ 9223372036854775807 then ((impl_TextOk.f kj7 ((⟨#[97, 97, 97, 97, 97]⟩ : ByteArray) ++ t138)).bind fun t146 => (some (!t146))) else (none))) = some r := H
                              have A30 := Aside0.mk A300
                              clear A300
                              by_cases c31 : t145 = true
                              · subst c31
                                have H1 : (some false) = some r := by rw [if_pos rfl] at H; exact H
                                clear H
                                have H := H1
                                clear H1
                                obtain rfl := Option.some.inj H
                                go_wp2_with (first | ((with_reducible refine gate_callee (f := 19) rfl ?_); refine goesL_ (some 41) rfl rfl Try.func19 (by kernel_rfl) rfl #[.string (t138.extract 0 ((ji15) : Int).toNat)] rfl (by (try simp only [List.map_toArray, List.map_cons, List.map_nil]); first | done | (simp only [hji15]; rfl) | rfl | (simp only [List.length_drop, List.length_take]; rfl)) ?_; (with_reducible refine (impl_TextOk.calls kj7 (t138.extract 0 ((ji15) : Int).toNat) true _ A18.out).mono ?_); rintro e w' ⟨rfl, ⟨nd, rfl⟩⟩; refine ⟨_, rfl, ?_⟩) | (go_at_call 19; (with_reducible refine (impl_TextOk.calls kj7 (t138.extract ((ji15) : Int).toNat t138.size) true _ A22.out).mono ?_); rintro e w' ⟨rfl, ⟨nd, rfl⟩⟩) | (go_at_call 19; (with_reducible refine (impl_TextOk.calls kj7 (t138 ++ (⟨#[101]⟩ : ByteArray)) false _ A25.out).mono ?_); rintro e w' ⟨rfl, ⟨nd, rfl⟩⟩) | (go_at_call 19; (with_reducible refine (impl_TextOk.calls kj7 ((t138.extract 0 ((ji15) : Int).toNat) ++ (⟨#[32]⟩ : ByteArray)) true _ A30.out).mono ?_); rintro e w' ⟨rfl, ⟨nd, rfl⟩⟩))
                                go_ret
                                exact ⟨by first | rfl | (simp [errW_none, errW_some] <;> rfl) | (simp only [← hji15]; first | rfl | (simp [errW_none, errW_some] <;> rfl)) | (simp [*, errW_none, errW_some] <;> rfl), by repeat (first | (with_reducible first | exact HB.out | apply below_alloc | apply pw_below_drewN | apply below_drew1) | exact HB.out)⟩
                              · replace c31 := Bool.eq_false_iff.mpr c31
                                subst c31
                                have H1 : (if 5 + t138.size ≤ 9223372036854775807 then ((impl_TextOk.f kj7 ((⟨#[97, 97, 97, 97, 97]⟩ : ByteArray) ++ t138)).bind fun t146 => (some (!t146))) else (none)) = some r := by rw [if_neg (show ¬ (false = true) by decide)] at H; exact H
                                clear H
                                have H := H1
                                clear H1
                                by_cases c32 : 5 + t138.size ≤ 9223372036854775807
                                · rw [if_pos c32] at H
                                  have c32b0 := eq_true c32
                                  have c32b1 : decide (5 + t138.size ≤ 9223372036854775807) = true := decide_eq_true c32
                                  try have c32b2 : (9223372036854775807 < 5 + t138.size) = False := eq_false (Nat.not_lt.2 c32)
                                  clear c32
                                  replace H := Option.bind_eq_some_iff.mp H
                                  obtain ⟨t146, A330, H⟩ := H
                                  replace H : (some (!t146)) = some r := H
                                  have A33 := Aside0.mk A330
                                  clear A330
                                  obtain rfl := Option.some.inj H
                                  go_wp2_with (first | ((with_reducible refine gate_callee (f := 19) rfl ?_); refine goesL_ (some 41) rfl rfl Try.func19 (by kernel_rfl) rfl #[.string (t138.extract 0 ((ji15) : Int).toNat)] rfl (by (try simp only [List.map_toArray, List.map_cons, List.map_nil]); first | done | (simp only [hji15]; rfl) | rfl | (simp only [List.length_drop, List.length_take]; rfl)) ?_; (with_reducible refine (impl_TextOk.calls kj7 (t138.extract 0 ((ji15) : Int).toNat) true _ A18.out).mono ?_); rintro e w' ⟨rfl, ⟨nd, rfl⟩⟩; refine ⟨_, rfl, ?_⟩) | (go_at_call 19; (with_reducible refine (impl_TextOk.calls kj7 (t138.extract ((ji15) : Int).toNat t138.size) true _ A22.out).mono ?_); rintro e w' ⟨rfl, ⟨nd, rfl⟩⟩) | (go_at_call 19; (with_reducible refine (impl_TextOk.calls kj7 (t138 ++ (⟨#[101]⟩ : ByteArray)) false _ A25.out).mono ?_); rintro e w' ⟨rfl, ⟨nd, rfl⟩⟩) | (go_at_call 19; (with_reducible refine (impl_TextOk.calls kj7 ((t138.extract 0 ((ji15) : Int).toNat) ++ (⟨#[32]⟩ : ByteArray)) false _ A30.out).mono ?_); rintro e w' ⟨rfl, ⟨nd, rfl⟩⟩) | (go_at_call 19; (with_reducible refine (impl_TextOk.calls kj7 ((⟨#[97, 97, 97, 97, 97]⟩ : ByteArray) ++ t138) t146 _ A33.out).mono ?_); rintro e w' ⟨rfl, ⟨nd, rfl⟩⟩))
                                  go_ret
                                  exact ⟨by first | rfl | (simp [errW_none, errW_some] <;> rfl) | (simp only [← hji15]; first | rfl | (simp [errW_none, errW_some] <;> rfl)) | (simp [*, errW_none, errW_some] <;> rfl), by repeat (first | (with_reducible first | exact HB.out | apply below_alloc | apply pw_below_drewN | apply below_drew1) | exact HB.out)⟩
                                · rw [if_neg c32] at H
                                  exact absurd H (by simp)
                            · rw [if_neg c29] at H
                              exact absurd H (by simp)
                        · rw [if_neg c24] at H
                          exact absurd H (by simp)
                      · replace c23 := Bool.eq_false_iff.mpr c23
                        subst c23
                        have H1 : (some false) = some r := by rw [if_neg (show ¬ (false = true) by decide)] at H; exact H
                        clear H
                        have H := H1
                        clear H1
                        obtain rfl := Option.some.inj H
                        go_wp2_with (first | ((with_reducible refine gate_callee (f := 19) rfl ?_); refine goesL_ (some 41) rfl rfl Try.func19 (by kernel_rfl) rfl #[.string (t138.extract 0 ((ji15) : Int).toNat)] rfl (by (try simp only [List.map_toArray, List.map_cons, List.map_nil]); first | done | (simp only [hji15]; rfl) | rfl | (simp only [List.length_drop, List.length_take]; rfl)) ?_; (with_reducible refine (impl_TextOk.calls kj7 (t138.extract 0 ((ji15) : Int).toNat) true _ A18.out).mono ?_); rintro e w' ⟨rfl, ⟨nd, rfl⟩⟩; refine ⟨_, rfl, ?_⟩) | (go_at_call 19; (with_reducible refine (impl_TextOk.calls kj7 (t138.extract ((ji15) : Int).toNat t138.size) false _ A22.out).mono ?_); rintro e w' ⟨rfl, ⟨nd, rfl⟩⟩))
                        go_ret
                        exact ⟨by first | rfl | (simp [errW_none, errW_some] <;> rfl) | (simp only [← hji15]; first | rfl | (simp [errW_none, errW_some] <;> rfl)) | (simp [*, errW_none, errW_some] <;> rfl), by repeat (first | (with_reducible first | exact HB.out | apply below_alloc | apply pw_below_drewN | apply below_drew1) | exact HB.out)⟩
                    · replace c19 := Bool.eq_false_iff.mpr c19
                      subst c19
                      have H1 : (some false) = some r := by rw [if_neg (show ¬ (false = true) by decide)] at H; exact H
                      clear H
                      have H := H1
                      clear H1
                      obtain rfl := Option.some.inj H
                      go_wp2_with (first | ((with_reducible refine gate_callee (f := 19) rfl ?_); refine goesL_ (some 41) rfl rfl Try.func19 (by kernel_rfl) rfl #[.string (t138.extract 0 ((ji15) : Int).toNat)] rfl (by (try simp only [List.map_toArray, List.map_cons, List.map_nil]); first | done | (simp only [hji15]; rfl) | rfl | (simp only [List.length_drop, List.length_take]; rfl)) ?_; (with_reducible refine (impl_TextOk.calls kj7 (t138.extract 0 ((ji15) : Int).toNat) false _ A18.out).mono ?_); rintro e w' ⟨rfl, ⟨nd, rfl⟩⟩; refine ⟨_, rfl, ?_⟩))
                      go_ret
                      exact ⟨by first | rfl | (simp [errW_none, errW_some] <;> rfl) | (simp only [← hji15]; first | rfl | (simp [errW_none, errW_some] <;> rfl)) | (simp [*, errW_none, errW_some] <;> rfl), by repeat (first | (with_reducible first | exact HB.out | apply below_alloc | apply pw_below_drewN | apply below_drew1) | exact HB.out)⟩
                  · rw [if_neg c17] at H
                    exact absurd H (by simp)
                · rw [if_neg c16] at H
                  exact absurd H (by simp)

/-- THE ONE PURE STATEMENT of laws_FnTextCut: yours. -/
def laws_FnTextCut.Pure : Prop := ∀ (l0 : List Int) (l1 : List Int), l0.length ≤ maxLen → l0.length * 1 ≤ 140737488351232 → (∀ x ∈ l0, (Lit.int .u8 x).wf = true) → l1.length ≤ maxLen → l1.length * 1 ≤ 140737488351232 → (∀ x ∈ l1, (Lit.int .u8 x).wf = true) → ∃ k, laws_FnTextCut.f k l0 l1 = some true
theorem laws_FnTextCut.walk (P : laws_FnTextCut.Pure) (a0 : Option Addr) (len0 cap0 : Nat) (z0 : List Int) (a1 : Option Addr) (len1 cap1 : Nat) (z1 : List Int) (w : World) (w0 : (a0 = none ∧ len0 = 0 ∧ cap0 = 0 ∧ z0 = []) ∨ ∃ x, a0 = some x ∧ len0 ≤ cap0 ∧ cap0 ≤ maxLen ∧ z0.length = cap0 ∧ (∀ i, i < z0.length → w.cell? (x.add i) = some (.int .u8 (z0.getD i 0))) ∧ ∀ n ∈ z0, (Lit.int .u8 n).wf = true) (y0 : len0 * 1 ≤ 140737488351232) (w1 : (a1 = none ∧ len1 = 0 ∧ cap1 = 0 ∧ z1 = []) ∨ ∃ x, a1 = some x ∧ len1 ≤ cap1 ∧ cap1 ≤ maxLen ∧ z1.length = cap1 ∧ (∀ i, i < z1.length → w.cell? (x.add i) = some (.int .u8 (z1.getD i 0))) ∧ ∀ n ∈ z1, (Lit.int .u8 n).wf = true) (y1 : len1 * 1 ≤ 140737488351232) :
    Calls Try.prog 9 #[.slice a0 len0 cap0, .slice a1 len1 cap1] w fun e w' => e = .returned (.bool true) ∧ Below w.heap.size w w' := by
  obtain ⟨l0, rfl, hr0, hm0, hw0, hc0⟩ := ReadsInt.ofRowC w0
  obtain ⟨l1, rfl, hr1, hm1, hw1, hc1⟩ := ReadsInt.ofRowC w1
  obtain ⟨k, h⟩ := P l0 l1 hm0 y0 hw0 hm1 y1 hw1
  refine (laws_FnTextCut.calls k _ _ l0 _ _ l1 true w (Kd.C_of_reads (d := (0 : Int)) (h1 := fun _ => rfl) hr0) hc0 (Kd.C_of_reads (d := (0 : Int)) (h1 := fun _ => rfl) hr1) hc1 h).mono ?_
  rintro e w' ⟨rfl, hd⟩
  exact ⟨rfl, hd⟩

end Go.Proofs.Ytpoleflmmdlgjaa.PFnTextCut
