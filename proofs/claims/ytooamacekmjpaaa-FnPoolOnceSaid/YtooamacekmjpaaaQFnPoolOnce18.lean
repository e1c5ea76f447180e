/- The walk: each function that the law comes to as a plain Lean function, and a proof that the Go code answers so. Written by this session's program over the kit's printer. -/
import Derived.Test.YtooamacekmjpaaaZ
import Derived.Test.YtooamacekmjpaaaQFnPoolOnce0
import Derived.Test.YtooamacekmjpaaaQFnPoolOnce4
import Derived.Test.YtooamacekmjpaaaQFnPoolOnce6
import Derived.Test.YtooamacekmjpaaaQFnPoolOnce16
import Derived.Test.YtooamacekmjpaaaQFnPoolOnce17
namespace Go.Proofs.Ytooamacekmjpaaa.PFnPoolOnce
open Go.RowKit Go.Proofs.YtooamacekmjpaaaW.PrintWords Go.Proofs.YtooamacekmjpaaaW.PrintLast Go.Proofs.YtooamacekmjpaaaW.PrintMore
attribute [local go_sem] max2_int min2_int max_two min_two max_three min_three max_four min_four   -- for this text's walks alone
set_option linter.unusedVariables false
set_option linter.unusedSimpArgs false
/-! ### laws_FnPoolOnce: function 12 -/
def laws_FnPoolOnce.j0 : Nat → Bool → Bool → List (S55) → List (S38) → Option (Bool)
 | 0, _, _, _, _ => none
 | k + 1, x4, x19, x538000, x538001 => if x19 = true then ((spec_PoolOk.f k x538000 x538001).bind fun t540 => (some (x4 == t540))) else ((impl_StoreFree.f k x538000).bind fun t541 => ((laws_lgKinds.f k x538000 x538001).bind fun t542 => (some ((wrap64 (8 - t541)) == t542))))
def laws_FnPoolOnce.f (k : Nat) (l0 : List Int) : Option (Bool) := if (l0.length : Int) > 1048576 then (some true) else ((spec_DrawPoolOk.f k l0).bind fun bt531 => ((impl_PoolOk.f k bt531.1 bt531.2).bind fun t538 => ((spec_PoolOk.f k bt531.1 bt531.2).bind fun t539 => (if (t538 != t539) = true then (laws_FnPoolOnce.j0 k t538 true bt531.1 bt531.2) else (laws_FnPoolOnce.j0 k t538 (!t538) bt531.1 bt531.2)))))
theorem laws_FnPoolOnce.mono_l : ∀ k, (∀ y0 y1 y2 y3, LeO (laws_FnPoolOnce.j0 k y0 y1 y2 y3) (laws_FnPoolOnce.j0 (k + 1) y0 y1 y2 y3))
 | 0 => fun _ _ _ _ r h => by simp [laws_FnPoolOnce.j0] at h
 | k + 1 => by
  have ih0 := laws_FnPoolOnce.mono_l k
  intro y0 y1 y2 y3
  unfold laws_FnPoolOnce.j0
  repeat' first
  | (with_reducible exact ih0 _ _ _ _)
  | (with_reducible exact impl_PoolOk.mono _ _ _)
  | (with_reducible exact impl_StoreFree.mono _ _)
  | (with_reducible exact laws_lgKinds.mono _ _ _)
  | (with_reducible exact spec_DrawPoolOk.mono _ _)
  | (with_reducible exact spec_PoolOk.mono _ _ _)
  | (with_reducible exact LeO.refl _)
  | (with_reducible exact LeO.none _)
  | (with_reducible refine LeO.ite ?_ ?_)
  | (with_reducible refine LeO.bind ?_ (fun _ => ?_))
  | exact ih0 _ _ _ _
  | exact impl_PoolOk.mono _ _ _
  | exact impl_StoreFree.mono _ _
  | exact laws_lgKinds.mono _ _ _
  | exact spec_DrawPoolOk.mono _ _
  | exact spec_PoolOk.mono _ _ _
  | exact LeO.none _
  | refine LeO.ite ?_ ?_
  | refine LeO.bind ?_ (fun _ => ?_)
theorem laws_FnPoolOnce.mono : ∀ a0 k, LeO (laws_FnPoolOnce.f k a0) (laws_FnPoolOnce.f (k + 1) a0) := by
 intro a0 k
 have ih0 := laws_FnPoolOnce.mono_l k
 unfold laws_FnPoolOnce.f
 repeat' first
  | (with_reducible exact ih0 _ _ _ _)
  | (with_reducible exact impl_PoolOk.mono _ _ _)
  | (with_reducible exact impl_StoreFree.mono _ _)
  | (with_reducible exact laws_lgKinds.mono _ _ _)
  | (with_reducible exact spec_DrawPoolOk.mono _ _)
  | (with_reducible exact spec_PoolOk.mono _ _ _)
  | (with_reducible exact LeO.refl _)
  | (with_reducible exact LeO.none _)
  | (with_reducible refine LeO.ite ?_ ?_)
  | (with_reducible refine LeO.bind ?_ (fun _ => ?_))
  | exact ih0 _ _ _ _
  | exact impl_PoolOk.mono _ _ _
  | exact impl_StoreFree.mono _ _
  | exact laws_lgKinds.mono _ _ _
  | exact spec_DrawPoolOk.mono _ _
  | exact spec_PoolOk.mono _ _ _
  | exact LeO.none _
  | refine LeO.ite ?_ ?_
  | refine LeO.bind ?_ (fun _ => ?_)
def laws_FnPoolOnce.T7 : Bool × List (List Nat × List Nat) := (true, [([], []), ([0], [0]), ([1], [1]), ([2], [2]), ([], []), ([4, 2], [4]), ([3, 5], [3, 5]), ([6, 5, 0, 1, 2, 3, 4, 5, 6], [6])])
def laws_FnPoolOnce.B7 : List Nat := [0, 1, 3, 7, 0, 23, 63, 127]
theorem laws_FnPoolOnce.tab7 : rtab .any (opsOf Try.f12 7) = laws_FnPoolOnce.T7 := by kernel_rfl
theorem laws_FnPoolOnce.bits7 : waitsOk laws_FnPoolOnce.T7.2 laws_FnPoolOnce.B7 = true := by kernel_rfl
set_option maxHeartbeats 8000000 in
set_option maxRecDepth 100000 in
theorem laws_FnPoolOnce.calls (k : Nat) (A0 : Option Addr) (c0 : Nat) (l0 : List Int) (r : Bool) (w : World) (hr0 : Kd.C (Kd.int .u8) w A0 l0.length l0) (hc0 : l0.length ≤ c0) (h : laws_FnPoolOnce.f k l0 = some r) :
 Calls Try.prog 12 #[.slice A0 l0.length c0] w fun e w' => e = .returned (.bool r) ∧ Below w.heap.size w w' := by
 have hu31 := Try.underlying31
 have HR0 := am hr0
 have HC0 := am hc0
 clear hr0 hc0
 have HB := am (Below.refl w.heap.size w)
 have H : (if (l0.length : Int) > 1048576 then (some true) else ((spec_DrawPoolOk.f k l0).bind fun bt531 => ((impl_PoolOk.f k bt531.1 bt531.2).bind fun t538 => ((spec_PoolOk.f k bt531.1 bt531.2).bind fun t539 => (if (t538 != t539) = true then (laws_FnPoolOnce.j0 k t538 true bt531.1 bt531.2) else (laws_FnPoolOnce.j0 k t538 (!t538) bt531.1 bt531.2)))))) = some r := h
 clear h
 by_cases c2 : (l0.length : Int) > 1048576
 · rw [if_pos c2] at H
   have c2b0 : decide (1048576 < (l0.length : Int)) = true := decide_eq_true c2
   have c2b1 : decide (1048576 < l0.length) = true := decide_eq_true (by omega)
   clear c2
   obtain rfl := Option.some.inj H
   go_enter Try.func12, Try.ntmps12
   go_wp2
   go_ret
   exact ⟨zv, (zb HB)⟩
 rw [if_neg c2] at H
 have c2b0 : decide (1048576 < (l0.length : Int)) = false := decide_eq_false c2
 have c2b1 : decide (1048576 < l0.length) = false := decide_eq_false (by omega)
 clear c2
 replace H := obs H
 obtain ⟨⟨t531, t534⟩, A30, H⟩ := H
 replace H : ((impl_PoolOk.f k t531 t534).bind fun t538 => ((spec_PoolOk.f k t531 t534).bind fun t539 => (if (t538 != t539) = true then (laws_FnPoolOnce.j0 k t538 true t531 t534) else (laws_FnPoolOnce.j0 k t538 (!t538) t531 t534)))) = some r := H
 have A3 := am A30
 clear A30
 replace H := obs H
 obtain ⟨t538, A40, H⟩ := H
 replace H : ((spec_PoolOk.f k t531 t534).bind fun t539 => (if (t538 != t539) = true then (laws_FnPoolOnce.j0 k t538 true t531 t534) else (laws_FnPoolOnce.j0 k t538 (!t538) t531 t534))) = some r := H
 have A4 := am A40
 clear A40
 have HC5 := am H
 clear H
 go_enter Try.func12, Try.ntmps12
 go_upto_region 5 with (first | ((with_reducible refine gate_callee (f := 32) rfl ?_); refine gl Try.func32 9 #[.slice A0 l0.length c0] rfl rfl rfl ?_; (with_reducible refine (spec_DrawPoolOk.calls k _ _ l0 t531 t534 _ ?side1 ?side2 A3.out).mono ?_); (case side1 => repeat (first | exact HR0.out | (with_reducible refine Kd.C_alloc ?_ _) | (with_reducible refine Kd.C_drewN ?_ _) | (with_reducible refine Kd.C_drew ?_))); (case side2 => exact HC0.out); rintro e w6 ⟨v532, v535, rfl, ho0, ho1, hb⟩; refine ⟨_, rfl, ?_⟩; have HO533 := am (Kd.R_lower ho0 (below_size (zb HB))); have HO536 := am (Kd.S_lower ho1 (below_size (zb HB))); replace HB := am (below_step (zb HB) hb); (try clear hb); (try clear hb2); (try clear hk); (try clear hi); (try clear ho0); (try clear ho1)) | ((with_reducible refine gate_dst (N := 3) rfl ?_); refine bx 31 #[.slice none 0 0, .slice none 0 0] ?_; intro gb537 hg w7 hbox hb; replace HO533 := am (Kd.R_below (zr HO533) hb); replace HO536 := am (Kd.S_below (zs HO536) hb); have BK537 := am (hbox); have GW537 := am (zn hg (zb HB)); have GE537 := am (zn hg (zb HB)); replace HB := am (below_step (zb HB) hb); clear hb hbox hg; obtain ⟨Ao8, co8, eo8⟩ := Kd.R_slice HO533.out; subst eo8; have hcz9_0 := ce0 BK537; have hcz9_1 := ce1 BK537; have hfz9_0 := bfz BK537 0; have hfz9_1 := bfz BK537 1; obtain ⟨Ao10, co10, eo10⟩ := Kd.S_slice HO536.out; subst eo10) | ((with_reducible refine gate_callee (f := 17) rfl ?_); refine gl Try.func17 11 #[.agg #[.slice Ao8 t531.length co8, .slice Ao10 t534.length co10]] rfl rfl rfl ?_; (with_reducible refine (impl_PoolOk.calls k _ _ t531 _ _ t534 t538 _ ?side1 ?side2 ?side3 ?side4 A4.out).mono ?_); (case side1 => refine (Kd.R_reads' (e := 55) (base := w.heap.size) (ok := fun k_ => True) (n := t531.length) (c := co8) ?_).2.2; exact (rf HO533 BK537)); (case side2 => exact (Kd.R_reads' HO533.out).2.1); (case side3 => refine (Kd.S_reads' (e := 38) (base := w.heap.size) (ok := fun k_ => True) (n := t534.length) (c := co10) ?_).2.2; exact (sf HO536 BK537)); (case side4 => exact (Kd.S_reads' HO536.out).2.1); rintro e w11 ⟨rfl, hb⟩; refine ⟨_, rfl, ?_⟩; replace HO533 := am (Kd.R_below (rf HO533 BK537) hb); replace HO536 := am (Kd.S_below (sf HO536 BK537) hb); replace BK537 := am (blk_below (g := gb537) (o := .cells #[.slice Ao8 t531.length co8, .slice Ao10 t534.length co10] 31 (0, 0)) (zp BK537) hb); replace HB := am (below_step (zb HB) hb); (try clear hb); (try clear hb2); (try clear hk); (try clear hi)))
 (try simp only [Act.put, List.setIfInBounds_toArray, List.set_cons_zero, List.set_cons_succ])
 go_cut [19] (fun v19 wc => ∃ (kq : Nat) (x19_4 : Bool), v19 = .bool x19_4 ∧ Aside0 (laws_FnPoolOnce.j0 kq t538 x19_4 t531 t534 = some r) ∧ Aside0 (kq ≤ k) ∧ Aside0 (Kd.R k55 55 wc w.heap.size (fun _ => True) (.slice Ao8 t531.length co8) t531) ∧ Aside0 (Kd.S k38 38 wc w.heap.size (fun _ => True) (.slice Ao10 t534.length co10) t534) ∧ Aside0 (wc.heap[gb537]? = some (.cells #[(.slice Ao8 t531.length co8), (.slice Ao10 t534.length co10)] 31 (0, 0))) ∧ Aside0 (Below w.heap.size w wc))
 case first =>
  have H := HC5.out
  clear HC5
  replace H := obs H
  obtain ⟨t539, A120, H⟩ := H
  replace H : (if (t538 != t539) = true then (laws_FnPoolOnce.j0 k t538 true t531 t534) else (laws_FnPoolOnce.j0 k t538 (!t538) t531 t534)) = some r := H
  have A12 := am A120
  clear A120
  by_cases c13 : (t538 != t539) = true
  · rw [if_pos c13] at H
    have c13b0 : (t538 != t539) = true := c13
    (try (have c13b1 : decide (t538 = t539) = false := by simpa using c13))
    (try (have c13b2 : (t538 == t539) = false := by simpa using c13))
    (try (have c13b3 : ¬ (t538 = t539) := by simpa using c13))
    clear c13
    (first | rw [c13b0] | (simp only [i64_w, i32_w]; rw [c13b0]) | skip)
    have H' := am H
    clear H
    have hcz14_0 := ce0 BK537
    have hcz14_1 := ce1 BK537
    have hfz14_0 := bfz BK537 0
    have hfz14_1 := bfz BK537 1
    go_wp2_with (first | ((with_reducible refine gate_callee (f := 15) rfl ?_); refine gl Try.func15 14 #[.agg #[.slice Ao8 t531.length co8, .slice Ao10 t534.length co10]] rfl rfl rfl ?_; (with_reducible refine (spec_PoolOk.calls k _ _ t531 _ _ t534 t539 _ ?side1 ?side2 ?side3 ?side4 A12.out).mono ?_); (case side1 => exact zc (Kd.R_reads' HO533.out).2.2); (case side2 => exact (Kd.R_reads' HO533.out).2.1); (case side3 => exact zc (Kd.S_reads' HO536.out).2.2); (case side4 => exact (Kd.S_reads' HO536.out).2.1); rintro e w15 ⟨rfl, hb⟩; refine ⟨_, rfl, ?_⟩; replace HO533 := am (Kd.R_below (zr HO533) hb); replace HO536 := am (Kd.S_below (zs HO536) hb); replace BK537 := am (blk_below (zk BK537) hb); replace HB := am (below_step (zb HB) hb); (try clear hb); (try clear hb2); (try clear hk); (try clear hi)))
    go_meet
    case rel => exact ⟨_, (true), ze, H', ⟨by first | omega | exact Nat.le_refl _⟩, ⟨zr HO533⟩, ⟨zs HO536⟩, ⟨zk BK537⟩, ⟨zb HB⟩⟩
  rw [if_neg c13] at H
  have c13b0 : (t538 != t539) = false := by simpa using c13
  (try (have c13b1 : decide (t538 = t539) = true := by simpa using c13))
  (try (have c13b2 : (t538 == t539) = true := by simpa using c13))
  clear c13
  (first | rw [c13b0] | (simp only [i64_w, i32_w]; rw [c13b0]) | skip)
  have H' := am H
  clear H
  have hcz16_0 := ce0 BK537
  have hcz16_1 := ce1 BK537
  have hfz16_0 := bfz BK537 0
  have hfz16_1 := bfz BK537 1
  go_wp2_with (first | ((with_reducible refine gate_callee (f := 15) rfl ?_); refine gl Try.func15 14 #[.agg #[.slice Ao8 t531.length co8, .slice Ao10 t534.length co10]] rfl rfl rfl ?_; (with_reducible refine (spec_PoolOk.calls k _ _ t531 _ _ t534 t539 _ ?side1 ?side2 ?side3 ?side4 A12.out).mono ?_); (case side1 => exact zc (Kd.R_reads' HO533.out).2.2); (case side2 => exact (Kd.R_reads' HO533.out).2.1); (case side3 => exact zc (Kd.S_reads' HO536.out).2.2); (case side4 => exact (Kd.S_reads' HO536.out).2.1); rintro e w17 ⟨rfl, hb⟩; refine ⟨_, rfl, ?_⟩; replace HO533 := am (Kd.R_below (zr HO533) hb); replace HO536 := am (Kd.S_below (zs HO536) hb); replace BK537 := am (blk_below (zk BK537) hb); replace HB := am (below_step (zb HB) hb); (try clear hb); (try clear hb2); (try clear hk); (try clear hi)))
  go_meet
  case rel => exact ⟨_, (!t538), ze, H', ⟨by first | omega | exact Nat.le_refl _⟩, ⟨zr HO533⟩, ⟨zs HO536⟩, ⟨zk BK537⟩, ⟨zb HB⟩⟩
 clear HC5
 try clear c1
 try clear c2
 try clear c2b0
 try clear c2b1
 try clear p2
 try clear c3
 try clear c12
 try clear c13
 try clear c13b0
 try clear c13b1
 try clear c13b2
 try clear c15
 try clear c17
 try clear hcz14_0
 try clear hcz14_1
 try clear hcz16_0
 try clear hcz16_1
 try clear hcz9_0
 try clear hcz9_1
 try clear hfz14_0
 try clear hfz14_1
 try clear hfz16_0
 try clear hfz16_1
 try clear hfz9_0
 try clear hfz9_1
 obtain ⟨kq, x19_4, rfl, HA, HJ4, HO_538000, HO_538001, BK537, HB⟩ := hcut
 cases kq with
 | zero => exact absurd HA.out (by simp [laws_FnPoolOnce.j0])
 | succ kj4 =>
  have H := HA.out
  clear HA
  simp only [laws_FnPoolOnce.j0] at H
  by_cases c18 : x19_4 = true
  · subst c18
    have H1 : ((spec_PoolOk.f kj4 t531 t534).bind fun t540 => (some (t538 == t540))) = some r := by rw [if_pos rfl] at H; exact H
    clear H
    have H := H1
    clear H1
    replace H := obs H
    obtain ⟨t540, A190, H⟩ := H
    replace H : (some (t538 == t540)) = some r := H
    have A19 := am A190
    clear A190
    obtain rfl := Option.some.inj H
    have hcz20_0 := ce0 BK537
    have hcz20_1 := ce1 BK537
    have hfz20_0 := bfz BK537 0
    have hfz20_1 := bfz BK537 1
    go_wp2_with (first | ((with_reducible refine gate_callee (f := 15) rfl ?_); refine gl Try.func15 22 #[.agg #[.slice Ao8 t531.length co8, .slice Ao10 t534.length co10]] rfl rfl rfl ?_; (with_reducible refine (spec_PoolOk.calls kj4 _ _ t531 _ _ t534 t540 _ ?side1 ?side2 ?side3 ?side4 A19.out).mono ?_); (case side1 => exact zc (Kd.R_reads' HO_538000.out).2.2); (case side2 => exact (Kd.R_reads' HO_538000.out).2.1); (case side3 => exact zc (Kd.S_reads' HO_538001.out).2.2); (case side4 => exact (Kd.S_reads' HO_538001.out).2.1); rintro e w21 ⟨rfl, hb⟩; refine ⟨_, rfl, ?_⟩; replace HO_538000 := am (Kd.R_below (zr HO_538000) hb); replace HO_538001 := am (Kd.S_below (zs HO_538001) hb); replace BK537 := am (blk_below (zk BK537) hb); replace HB := am (below_step (zb HB) hb); (try clear hb); (try clear hb2); (try clear hk); (try clear hi)))
    go_ret
    exact ⟨zv, (zb HB)⟩
  replace c18 := Bool.eq_false_iff.mpr c18
  subst c18
  have H1 : ((impl_StoreFree.f kj4 t531).bind fun t541 => ((laws_lgKinds.f kj4 t531 t534).bind fun t542 => (some ((wrap64 (8 - t541)) == t542)))) = some r := by rw [if_neg (show ¬ (false = true) by decide)] at H; exact H
  clear H
  have H := H1
  clear H1
  replace H := obs H
  obtain ⟨t541, A220, H⟩ := H
  replace H : ((laws_lgKinds.f kj4 t531 t534).bind fun t542 => (some ((wrap64 (8 - t541)) == t542))) = some r := H
  have A22 := am A220
  clear A220
  replace H := obs H
  obtain ⟨t542, A230, H⟩ := H
  replace H : (some ((wrap64 (8 - t541)) == t542)) = some r := H
  have A23 := am A230
  clear A230
  obtain rfl := Option.some.inj H
  try go_wp2
  replace HO_538000 := am (Kd.R_drew HO_538000.out)
  replace HO_538001 := am (Kd.S_drew HO_538001.out)
  replace BK537 := am (blk_drew BK537.out)
  replace HB := am (below_drew1 HB.out)
  refine start_ (n := 8) (S := fun w' => w'.cell? ⟨gb537, 0, none⟩ = some (.slice Ao8 t531.length co8) ∧ w'.cell? ⟨gb537, 1, none⟩ = some (.slice Ao10 t534.length co10)) (ds := []) (bs 8 0) (by kernel_rfl) rfl rfl ⟨ce0 BK537, ce1 BK537⟩ (fun hHeld => ?_); refine with_tabW laws_FnPoolOnce.tab7 laws_FnPoolOnce.bits7 (fun HT_ HW_ => ?_)
  generalize wc.drew = w24 at HO_538000 HO_538001 BK537 HB hHeld ⊢
  refine pu 0 24 8 1 rfl rfl ?_
  refine ta2 1 25 8 3 rfl rfl hHeld ?_
  refine ta2 4 28 8 19 rfl rfl hHeld ?_
  refine oz 2 8 23 rfl rfl (fun K hK => ?_)
  refine gs Try.func35 #[.slice Ao8 t531.length co8] rfl rfl ?_
  with_reducible refine (impl_StoreFree.calls kj4 _ _ t531 t541 _ ?side1 ?side2 A22.out).mono ?_
  (case side1 => exact zc (Kd.R_reads' HO_538000.out).2.2)
  (case side2 => exact (Kd.R_reads' HO_538000.out).2.1)
  rintro e w25 ⟨rfl, hb⟩
  refine ⟨_, rfl, ?_⟩
  replace HO_538000 := am (Kd.R_below (zr HO_538000) hb)
  replace HO_538001 := am (Kd.S_below (zs HO_538001) hb)
  replace BK537 := am (blk_below (zk BK537) hb)
  replace HB := am (below_step (zb HB) hb)
  (try clear hb)
  (try clear hb2)
  (try clear hk)
  (try clear hi)
  refine hK.out _ _ ⟨ce0 BK537, ce1 BK537⟩ (fun hHeld => ?_)
  clear hK K
  refine norm_ (a' := ?_) ?_ ?_
  rotate_left
  · show Act.put _ (some 26) _ = _
    simp only [Act.put, List.setIfInBounds_toArray, List.set_cons_zero, List.set_cons_succ, i64_w, i32_w]
    rfl
  refine pu 3 27 8 31 rfl rfl ?_
  refine oz 5 8 63 rfl rfl (fun K hK => ?_)
  refine gs Try.func36 #[.agg #[.slice Ao8 t531.length co8, .slice Ao10 t534.length co10]] rfl rfl ?_
  with_reducible refine (laws_lgKinds.calls kj4 _ _ t531 _ _ t534 t542 _ ?side1 ?side2 ?side3 ?side4 A23.out).mono ?_
  (case side1 => exact zc (Kd.R_reads' HO_538000.out).2.2)
  (case side2 => exact (Kd.R_reads' HO_538000.out).2.1)
  (case side3 => exact zc (Kd.S_reads' HO_538001.out).2.2)
  (case side4 => exact (Kd.S_reads' HO_538001.out).2.1)
  rintro e w26 ⟨rfl, hb⟩
  refine ⟨_, rfl, ?_⟩
  replace HO_538000 := am (Kd.R_below (zr HO_538000) hb)
  replace HO_538001 := am (Kd.S_below (zs HO_538001) hb)
  replace BK537 := am (blk_below (zk BK537) hb)
  replace HB := am (below_step (zb HB) hb)
  (try clear hb)
  (try clear hb2)
  (try clear hk)
  (try clear hi)
  refine hK.out _ _ ⟨ce0 BK537, ce1 BK537⟩ (fun hHeld => ?_)
  clear hK K
  refine norm_ (a' := ?_) ?_ ?_
  rotate_left
  · show Act.put _ (some 29) _ = _
    simp only [Act.put, List.setIfInBounds_toArray, List.set_cons_zero, List.set_cons_succ, i64_w, i32_w]
    rfl
  refine pu 6 30 8 127 rfl rfl ?_
  refine pu 7 2 8 255 rfl rfl ?_
  refine done_ (done_of HT_.out (by kernel_rfl)) ?_
  try go_wp2
  go_ret
  exact ⟨zv, (zb HB)⟩
/-- THE ONE PURE STATEMENT of laws_FnPoolOnce: yours. -/
def laws_FnPoolOnce.Pure : Prop := ∀ (l0 : List Int), l0.length ≤ maxLen → l0.length * 1 ≤ 140737488351232 → (∀ x ∈ l0, (Lit.int .u8 x).wf = true) → ∃ k, laws_FnPoolOnce.f k l0 = some true
theorem laws_FnPoolOnce.walk (P : laws_FnPoolOnce.Pure) (a0 : Option Addr) (len0 cap0 : Nat) (z0 : List Int) (w : World) (w0 : (a0 = none ∧ len0 = 0 ∧ cap0 = 0 ∧ z0 = []) ∨ ∃ x, a0 = some x ∧ len0 ≤ cap0 ∧ cap0 ≤ maxLen ∧ z0.length = cap0 ∧ (∀ i, i < z0.length → w.cell? (x.add i) = some (.int .u8 (z0.getD i 0))) ∧ ∀ n ∈ z0, (Lit.int .u8 n).wf = true) (y0 : len0 * 1 ≤ 140737488351232) :
 Calls Try.prog 12 #[.slice a0 len0 cap0] w fun e w' => e = .returned (.bool true) ∧ Below w.heap.size w w' := by
 obtain ⟨l0, rfl, hr0, hm0, hw0, hc0⟩ := ReadsInt.ofRowC w0
 obtain ⟨k, h⟩ := P l0 hm0 y0 hw0
 refine (laws_FnPoolOnce.calls k _ _ l0 true w (Kd.C_of_reads (d := (0 : Int)) (h1 := fun _ => rfl) hr0) hc0 h).mono ?_
 rintro e w' ⟨rfl, hd⟩
 exact ⟨rfl, hd⟩
end Go.Proofs.Ytooamacekmjpaaa.PFnPoolOnce
