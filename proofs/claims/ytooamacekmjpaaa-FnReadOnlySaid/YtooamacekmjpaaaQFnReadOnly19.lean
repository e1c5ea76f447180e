/- The walk: each function that the law comes to as a plain Lean function, and a proof that the Go code answers so. Written by this session's program over the kit's printer. -/
import Derived.Test.YtooamacekmjpaaaZ
import Derived.Test.YtooamacekmjpaaaQFnReadOnly0
import Derived.Test.YtooamacekmjpaaaQFnReadOnly4
import Derived.Test.YtooamacekmjpaaaQFnReadOnly5
import Derived.Test.YtooamacekmjpaaaQFnReadOnly8
import Derived.Test.YtooamacekmjpaaaQFnReadOnly18
namespace Go.Proofs.Ytooamacekmjpaaa.PFnReadOnly
open Go.RowKit Go.Proofs.YtooamacekmjpaaaW.PrintWords Go.Proofs.YtooamacekmjpaaaW.PrintLast Go.Proofs.YtooamacekmjpaaaW.PrintMore
attribute [local go_sem] max2_int min2_int max_two min_two max_three min_three max_four min_four   -- for this text's walks alone
set_option linter.unusedVariables false
set_option linter.unusedSimpArgs false
/-! ### laws_FnReadOnly: function 13 -/
mutual
def laws_FnReadOnly.j0 : Nat → ByteArray → Int → ByteArray → Bool → ByteArray → Bool → Bool → List (S55) → List (S38) → Option (Bool)
 | 0, _, _, _, _, _, _, _, _, _ => none
 | k + 1, x4, x5, x6, x7, x8, x9, x47, x551000, x551001 => if x47 = true then (if (x9 == x7) = true then (some (x8.toList == x6.toList)) else (some false)) else (if x9 = true then (laws_FnReadOnly.l0 k x4 x5 x8 0 x551000 x551001) else (if x5 < 0 then (some true) else ((laws_lgBlocks.f k x551000 x551001 x4).bind fun t556 => (some (decide (x5 ≥ t556))))))
def laws_FnReadOnly.l0 : Nat → ByteArray → Int → ByteArray → Int → List (S55) → List (S38) → Option (Bool)
 | 0, _, _, _, _, _, _ => none
 | k + 1, x4, x5, x8, x10, x551000, x551001 => if x10 < (x551001.length : Int) then (if 0 ≤ x10 then (if ((rd_T38 x551001 x10).f0).toList = x4.toList then (if 0 ≤ x5 then (if x5 < (((rd_T38 x551001 x10).f1).length : Int) then (if (rd ((rd_T38 x551001 x10).f1) x5) = 0 then (if x8.toList = ([] : List UInt8) then (some true) else (if (rd ((rd_T38 x551001 x10).f1) x5) > 0 then (if 0 ≤ (wrap64 ((rd ((rd_T38 x551001 x10).f1) x5) - 1)) then (if (wrap64 ((rd ((rd_T38 x551001 x10).f1) x5) - 1)) < (x551000.length : Int) then (if x8.toList = ((rd_T55 x551000 (wrap64 ((rd ((rd_T38 x551001 x10).f1) x5) - 1))).f0).toList then (some (x8.toList != ([] : List UInt8))) else (some false)) else (none)) else (none)) else (some false))) else (if (rd ((rd_T38 x551001 x10).f1) x5) > 0 then (if 0 ≤ (wrap64 ((rd ((rd_T38 x551001 x10).f1) x5) - 1)) then (if (wrap64 ((rd ((rd_T38 x551001 x10).f1) x5) - 1)) < (x551000.length : Int) then (if x8.toList = ((rd_T55 x551000 (wrap64 ((rd ((rd_T38 x551001 x10).f1) x5) - 1))).f0).toList then (some (x8.toList != ([] : List UInt8))) else (some false)) else (none)) else (none)) else (some false))) else (none)) else (none)) else (laws_FnReadOnly.l0 k x4 x5 x8 (wrap64 (x10 + 1)) x551000 x551001)) else (none)) else (some false)
end
def laws_FnReadOnly.f (k : Nat) (l0 : List Int) : Option (Bool) := if (l0.length : Int) > 1048576 then (some true) else ((spec_DrawPoolRead.f k l0).bind fun bt542 => ((spec_PoolRead.f k bt542.1 bt542.2.1 bt542.2.2.1 bt542.2.2.2).bind fun bt551 => ((impl_PoolRead.f k bt542.1 bt542.2.1 bt542.2.2.1 bt542.2.2.2).bind fun bt553 => (if (bt553.2 != bt551.2) = true then (laws_FnReadOnly.j0 k bt542.2.2.1 bt542.2.2.2 bt551.1 bt551.2 bt553.1 bt553.2 true bt542.1 bt542.2.1) else (if bt553.1.toList = bt551.1.toList then ((spec_PoolOk.f k bt542.1 bt542.2.1).bind fun t555 => (laws_FnReadOnly.j0 k bt542.2.2.1 bt542.2.2.2 bt551.1 bt551.2 bt553.1 bt553.2 (!t555) bt542.1 bt542.2.1)) else (laws_FnReadOnly.j0 k bt542.2.2.1 bt542.2.2.2 bt551.1 bt551.2 bt553.1 bt553.2 true bt542.1 bt542.2.1))))))
theorem laws_FnReadOnly.mono_l : ∀ k, (∀ y0 y1 y2 y3 y4 y5 y6 y7 y8, LeO (laws_FnReadOnly.j0 k y0 y1 y2 y3 y4 y5 y6 y7 y8) (laws_FnReadOnly.j0 (k + 1) y0 y1 y2 y3 y4 y5 y6 y7 y8)) ∧ (∀ y0 y1 y2 y3 y4 y5, LeO (laws_FnReadOnly.l0 k y0 y1 y2 y3 y4 y5) (laws_FnReadOnly.l0 (k + 1) y0 y1 y2 y3 y4 y5))
 | 0 => ⟨fun _ _ _ _ _ _ _ _ _ r h => by simp [laws_FnReadOnly.j0] at h, fun _ _ _ _ _ _ r h => by simp [laws_FnReadOnly.l0] at h⟩
 | k + 1 => by
  obtain ⟨ih0, ih1⟩ := laws_FnReadOnly.mono_l k
  refine ⟨?_, ?_⟩
  · intro y0 y1 y2 y3 y4 y5 y6 y7 y8
    unfold laws_FnReadOnly.j0
    repeat' first
    | (with_reducible exact ih0 _ _ _ _ _ _ _ _ _)
    | (with_reducible exact ih1 _ _ _ _ _ _)
    | (with_reducible exact impl_PoolRead.mono _ _ _ _ _)
    | (with_reducible exact laws_lgBlocks.mono _ _ _ _)
    | (with_reducible exact spec_DrawPoolRead.mono _ _)
    | (with_reducible exact spec_PoolOk.mono _ _ _)
    | (with_reducible exact spec_PoolRead.mono _ _ _ _ _)
    | (with_reducible exact LeO.refl _)
    | (with_reducible exact LeO.none _)
    | (with_reducible refine LeO.ite ?_ ?_)
    | (with_reducible refine LeO.bind ?_ (fun _ => ?_))
    | exact ih0 _ _ _ _ _ _ _ _ _
    | exact ih1 _ _ _ _ _ _
    | exact impl_PoolRead.mono _ _ _ _ _
    | exact laws_lgBlocks.mono _ _ _ _
    | exact spec_DrawPoolRead.mono _ _
    | exact spec_PoolOk.mono _ _ _
    | exact spec_PoolRead.mono _ _ _ _ _
    | exact LeO.none _
    | refine LeO.ite ?_ ?_
    | refine LeO.bind ?_ (fun _ => ?_)
  intro y0 y1 y2 y3 y4 y5
  unfold laws_FnReadOnly.l0
  repeat' first
  | (with_reducible exact ih0 _ _ _ _ _ _ _ _ _)
  | (with_reducible exact ih1 _ _ _ _ _ _)
  | (with_reducible exact impl_PoolRead.mono _ _ _ _ _)
  | (with_reducible exact laws_lgBlocks.mono _ _ _ _)
  | (with_reducible exact spec_DrawPoolRead.mono _ _)
  | (with_reducible exact spec_PoolOk.mono _ _ _)
  | (with_reducible exact spec_PoolRead.mono _ _ _ _ _)
  | (with_reducible exact LeO.refl _)
  | (with_reducible exact LeO.none _)
  | (with_reducible refine LeO.ite ?_ ?_)
  | (with_reducible refine LeO.bind ?_ (fun _ => ?_))
  | exact ih0 _ _ _ _ _ _ _ _ _
  | exact ih1 _ _ _ _ _ _
  | exact impl_PoolRead.mono _ _ _ _ _
  | exact laws_lgBlocks.mono _ _ _ _
  | exact spec_DrawPoolRead.mono _ _
  | exact spec_PoolOk.mono _ _ _
  | exact spec_PoolRead.mono _ _ _ _ _
  | exact LeO.none _
  | refine LeO.ite ?_ ?_
  | refine LeO.bind ?_ (fun _ => ?_)
theorem laws_FnReadOnly.mono : ∀ a0 k, LeO (laws_FnReadOnly.f k a0) (laws_FnReadOnly.f (k + 1) a0) := by
 intro a0 k
 obtain ⟨ih0, ih1⟩ := laws_FnReadOnly.mono_l k
 unfold laws_FnReadOnly.f
 repeat' first
  | (with_reducible exact ih0 _ _ _ _ _ _ _ _ _)
  | (with_reducible exact ih1 _ _ _ _ _ _)
  | (with_reducible exact impl_PoolRead.mono _ _ _ _ _)
  | (with_reducible exact laws_lgBlocks.mono _ _ _ _)
  | (with_reducible exact spec_DrawPoolRead.mono _ _)
  | (with_reducible exact spec_PoolOk.mono _ _ _)
  | (with_reducible exact spec_PoolRead.mono _ _ _ _ _)
  | (with_reducible exact LeO.refl _)
  | (with_reducible exact LeO.none _)
  | (with_reducible refine LeO.ite ?_ ?_)
  | (with_reducible refine LeO.bind ?_ (fun _ => ?_))
  | exact ih0 _ _ _ _ _ _ _ _ _
  | exact ih1 _ _ _ _ _ _
  | exact impl_PoolRead.mono _ _ _ _ _
  | exact laws_lgBlocks.mono _ _ _ _
  | exact spec_DrawPoolRead.mono _ _
  | exact spec_PoolOk.mono _ _ _
  | exact spec_PoolRead.mono _ _ _ _ _
  | exact LeO.none _
  | refine LeO.ite ?_ ?_
  | refine LeO.bind ?_ (fun _ => ?_)
set_option maxHeartbeats 8000000 in
set_option maxRecDepth 100000 in
theorem laws_FnReadOnly.calls (k : Nat) (A0 : Option Addr) (c0 : Nat) (l0 : List Int) (r : Bool) (w : World) (hr0 : Kd.C (Kd.int .u8) w A0 l0.length l0) (hc0 : l0.length ≤ c0) (h : laws_FnReadOnly.f k l0 = some r) :
 Calls Try.prog 13 #[.slice A0 l0.length c0] w fun e w' => e = .returned (.bool r) ∧ Below w.heap.size w w' := by
 have hu31 := Try.underlying31
 have HR0 := am hr0
 have HC0 := am hc0
 clear hr0 hc0
 have HB := am (Below.refl w.heap.size w)
 have H : (if (l0.length : Int) > 1048576 then (some true) else ((spec_DrawPoolRead.f k l0).bind fun bt542 => ((spec_PoolRead.f k bt542.1 bt542.2.1 bt542.2.2.1 bt542.2.2.2).bind fun bt551 => ((impl_PoolRead.f k bt542.1 bt542.2.1 bt542.2.2.1 bt542.2.2.2).bind fun bt553 => (if (bt553.2 != bt551.2) = true then (laws_FnReadOnly.j0 k bt542.2.2.1 bt542.2.2.2 bt551.1 bt551.2 bt553.1 bt553.2 true bt542.1 bt542.2.1) else (if bt553.1.toList = bt551.1.toList then ((spec_PoolOk.f k bt542.1 bt542.2.1).bind fun t555 => (laws_FnReadOnly.j0 k bt542.2.2.1 bt542.2.2.2 bt551.1 bt551.2 bt553.1 bt553.2 (!t555) bt542.1 bt542.2.1)) else (laws_FnReadOnly.j0 k bt542.2.2.1 bt542.2.2.2 bt551.1 bt551.2 bt553.1 bt553.2 true bt542.1 bt542.2.1))))))) = some r := h
 clear h
 by_cases c2 : (l0.length : Int) > 1048576
 · rw [if_pos c2] at H
   have c2b0 : decide (1048576 < (l0.length : Int)) = true := decide_eq_true c2
   have c2b1 : decide (1048576 < l0.length) = true := decide_eq_true (by omega)
   clear c2
   obtain rfl := Option.some.inj H
   go_enter Try.func13, Try.ntmps13
   go_wp2
   go_ret
   exact ⟨zv, (zb HB)⟩
 rw [if_neg c2] at H
 have c2b0 : decide (1048576 < (l0.length : Int)) = false := decide_eq_false c2
 have c2b1 : decide (1048576 < l0.length) = false := decide_eq_false (by omega)
 clear c2
 replace H := obs H
 obtain ⟨⟨t542, t545, t548, t549⟩, A30, H⟩ := H
 replace H : ((spec_PoolRead.f k t542 t545 t548 t549).bind fun bt551 => ((impl_PoolRead.f k t542 t545 t548 t549).bind fun bt553 => (if (bt553.2 != bt551.2) = true then (laws_FnReadOnly.j0 k t548 t549 bt551.1 bt551.2 bt553.1 bt553.2 true t542 t545) else (if bt553.1.toList = bt551.1.toList then ((spec_PoolOk.f k t542 t545).bind fun t555 => (laws_FnReadOnly.j0 k t548 t549 bt551.1 bt551.2 bt553.1 bt553.2 (!t555) t542 t545)) else (laws_FnReadOnly.j0 k t548 t549 bt551.1 bt551.2 bt553.1 bt553.2 true t542 t545))))) = some r := H
 have A3 := am A30
 clear A30
 replace H := obs H
 obtain ⟨⟨t551, t552⟩, A40, H⟩ := H
 replace H : ((impl_PoolRead.f k t542 t545 t548 t549).bind fun bt553 => (if (bt553.2 != t552) = true then (laws_FnReadOnly.j0 k t548 t549 t551 t552 bt553.1 bt553.2 true t542 t545) else (if bt553.1.toList = t551.toList then ((spec_PoolOk.f k t542 t545).bind fun t555 => (laws_FnReadOnly.j0 k t548 t549 t551 t552 bt553.1 bt553.2 (!t555) t542 t545)) else (laws_FnReadOnly.j0 k t548 t549 t551 t552 bt553.1 bt553.2 true t542 t545)))) = some r := H
 have A4 := am A40
 clear A40
 replace H := obs H
 obtain ⟨⟨t553, t554⟩, A50, H⟩ := H
 replace H : (if (t554 != t552) = true then (laws_FnReadOnly.j0 k t548 t549 t551 t552 t553 t554 true t542 t545) else (if t553.toList = t551.toList then ((spec_PoolOk.f k t542 t545).bind fun t555 => (laws_FnReadOnly.j0 k t548 t549 t551 t552 t553 t554 (!t555) t542 t545)) else (laws_FnReadOnly.j0 k t548 t549 t551 t552 t553 t554 true t542 t545))) = some r := H
 have A5 := am A50
 clear A50
 have HC6 := am H
 clear H
 go_enter Try.func13, Try.ntmps13
 go_upto_region 6 with (first | ((with_reducible refine gate_callee (f := 37) rfl ?_); refine gl Try.func37 17 #[.slice A0 l0.length c0] rfl rfl rfl ?_; (with_reducible refine (spec_DrawPoolRead.calls k _ _ l0 t542 t545 t548 t549 _ ?side1 ?side2 A3.out).mono ?_); (case side1 => repeat (first | exact HR0.out | (with_reducible refine Kd.C_alloc ?_ _) | (with_reducible refine Kd.C_drewN ?_ _) | (with_reducible refine Kd.C_drew ?_))); (case side2 => exact HC0.out); rintro e w7 ⟨v543, v546, rfl, ho0, ho1, hb⟩; refine ⟨_, rfl, ?_⟩; have HO544 := am (Kd.R_lower ho0 (below_size (zb HB))); have HO547 := am (Kd.S_lower ho1 (below_size (zb HB))); replace HB := am (below_step (zb HB) hb); (try clear hb); (try clear hb2); (try clear hk); (try clear hi); (try clear ho0); (try clear ho1)) | ((with_reducible refine gate_dst (N := 3) rfl ?_); refine bx 31 #[.slice none 0 0, .slice none 0 0] ?_; intro gb550 hg w8 hbox hb; replace HO544 := am (Kd.R_below (zr HO544) hb); replace HO547 := am (Kd.S_below (zs HO547) hb); have BK550 := am hbox; have GW550 := am (zn hg (zb HB)); have GE550 := am (zn hg (zb HB)); replace HB := am (below_step (zb HB) hb); clear hb hbox hg; obtain ⟨Ao9, co9, eo9⟩ := Kd.R_slice HO544.out; subst eo9; have hcz10_0 := ce0 BK550; have hcz10_1 := ce1 BK550; have hfz10_0 := bfz BK550 0; have hfz10_1 := bfz BK550 1; obtain ⟨Ao11, co11, eo11⟩ := Kd.S_slice HO547.out; subst eo11) | ((with_reducible refine gate_callee (f := 22) rfl ?_); refine gl Try.func22 25 #[.agg #[.slice Ao9 t542.length co9, .slice Ao11 t545.length co11], .string t548, .int .i64 t549] rfl rfl rfl ?_; (with_reducible refine (spec_PoolRead.calls k _ _ t542 _ _ t545 t548 t549 t551 t552 _ ?side1 ?side2 ?side3 ?side4 A4.out).mono ?_); (case side1 => refine (Kd.R_reads' (e := 55) (base := w.heap.size) (ok := fun k_ => True) (n := t542.length) (c := co9) ?_).2.2; exact (rf HO544 BK550)); (case side2 => exact (Kd.R_reads' HO544.out).2.1); (case side3 => refine (Kd.S_reads' (e := 38) (base := w.heap.size) (ok := fun k_ => True) (n := t545.length) (c := co11) ?_).2.2; exact (sf HO547 BK550)); (case side4 => exact (Kd.S_reads' HO547.out).2.1); rintro e w12 ⟨rfl, hb⟩; refine ⟨_, rfl, ?_⟩; replace HO544 := am (Kd.R_below (rf HO544 BK550) hb); replace HO547 := am (Kd.S_below (sf HO547 BK550) hb); replace BK550 := am (blk_below (g := gb550) (o := .cells #[.slice Ao9 t542.length co9, .slice Ao11 t545.length co11] 31 (0, 0)) (zp BK550) hb); replace HB := am (below_step (zb HB) hb); (try clear hb); (try clear hb2); (try clear hk); (try clear hi); have hcz13_0 := ce0 BK550; have hcz13_1 := ce1 BK550; have hfz13_0 := bfz BK550 0; have hfz13_1 := bfz BK550 1) | ((with_reducible refine gate_callee (f := 23) rfl ?_); refine gl Try.func23 32 #[.agg #[.slice Ao9 t542.length co9, .slice Ao11 t545.length co11], .string t548, .int .i64 t549] rfl rfl rfl ?_; (with_reducible refine (impl_PoolRead.calls k _ _ t542 _ _ t545 t548 t549 t553 t554 _ ?side1 ?side2 ?side3 ?side4 A5.out).mono ?_); (case side1 => exact zc (Kd.R_reads' HO544.out).2.2); (case side2 => exact (Kd.R_reads' HO544.out).2.1); (case side3 => exact zc (Kd.S_reads' HO547.out).2.2); (case side4 => exact (Kd.S_reads' HO547.out).2.1); rintro e w14 ⟨rfl, hb⟩; refine ⟨_, rfl, ?_⟩; replace HO544 := am (Kd.R_below (zr HO544) hb); replace HO547 := am (Kd.S_below (zs HO547) hb); replace BK550 := am (blk_below (zk BK550) hb); replace HB := am (below_step (zb HB) hb); (try clear hb); (try clear hb2); (try clear hk); (try clear hi)))
 (try simp only [Act.put, List.setIfInBounds_toArray, List.set_cons_zero, List.set_cons_succ])
 go_cut [47] (fun v47 wc => ∃ (kq : Nat) (x47_5 : Bool), v47 = .bool x47_5 ∧ Aside0 (laws_FnReadOnly.j0 kq t548 t549 t551 t552 t553 t554 x47_5 t542 t545 = some r) ∧ Aside0 (kq ≤ k) ∧ Aside0 (Kd.R k55 55 wc w.heap.size (fun _ => True) (.slice Ao9 t542.length co9) t542) ∧ Aside0 (Kd.S k38 38 wc w.heap.size (fun _ => True) (.slice Ao11 t545.length co11) t545) ∧ Aside0 (wc.heap[gb550]? = some (.cells #[(.slice Ao9 t542.length co9), (.slice Ao11 t545.length co11)] 31 (0, 0))) ∧ Aside0 (Below w.heap.size w wc))
 case first =>
  have H := HC6.out
  clear HC6
  by_cases c15 : (t554 != t552) = true
  · rw [if_pos c15] at H
    have c15b0 : (t554 != t552) = true := c15
    (try (have c15b1 : decide (t554 = t552) = false := by simpa using c15))
    (try (have c15b2 : (t554 == t552) = false := by simpa using c15))
    (try (have c15b3 : ¬ (t554 = t552) := by simpa using c15))
    clear c15
    (first | rw [c15b0] | (simp only [i64_w, i32_w]; rw [c15b0]) | skip)
    have H' := am H
    clear H
    go_wp2
    go_meet
    case rel => exact ⟨_, (true), ze, H', ⟨by first | omega | exact Nat.le_refl _⟩, ⟨zr HO544⟩, ⟨zs HO547⟩, ⟨zk BK550⟩, ⟨zb HB⟩⟩
  rw [if_neg c15] at H
  have c15b0 : (t554 != t552) = false := by simpa using c15
  (try (have c15b1 : decide (t554 = t552) = true := by simpa using c15))
  (try (have c15b2 : (t554 == t552) = true := by simpa using c15))
  clear c15
  (first | rw [c15b0] | (simp only [i64_w, i32_w]; rw [c15b0]) | skip)
  by_cases c16 : t553.toList = t551.toList
  rotate_left
  · rw [if_neg c16] at H
    have c16b0 : (t553.toList == t551.toList) = false := beq_eq_false_iff_ne.mpr c16
    have c16b1 : (t553.toList != t551.toList) = true := bne_iff_ne.mpr c16
    have H' := am H
    clear H
    go_wp2
    go_meet
    case rel => exact ⟨_, (true), ze, H', ⟨by first | omega | exact Nat.le_refl _⟩, ⟨zr HO544⟩, ⟨zs HO547⟩, ⟨zk BK550⟩, ⟨zb HB⟩⟩
  rw [if_pos c16] at H
  have c16b0 : (t553.toList == t551.toList) = true := beq_iff_eq.mpr c16
  have c16b1 : (t553.toList != t551.toList) = false := bne_eq_false_iff_eq.mpr c16
  clear c16
  replace H := obs H
  obtain ⟨t555, A170, H⟩ := H
  replace H : (laws_FnReadOnly.j0 k t548 t549 t551 t552 t553 t554 (!t555) t542 t545) = some r := H
  have A17 := am A170
  clear A170
  have H' := am H
  clear H
  have hcz18_0 := ce0 BK550
  have hcz18_1 := ce1 BK550
  have hfz18_0 := bfz BK550 0
  have hfz18_1 := bfz BK550 1
  go_wp2_with (first | (go_at_call 15; (with_reducible refine (spec_PoolOk.calls k _ _ t542 _ _ t545 t555 _ ?side1 ?side2 ?side3 ?side4 A17.out).mono ?_); (case side1 => exact zc (Kd.R_reads' HO544.out).2.2); (case side2 => exact (Kd.R_reads' HO544.out).2.1); (case side3 => exact zc (Kd.S_reads' HO547.out).2.2); (case side4 => exact (Kd.S_reads' HO547.out).2.1); rintro e w19 ⟨rfl, hb⟩; replace HO544 := am (Kd.R_below (zr HO544) hb); replace HO547 := am (Kd.S_below (zs HO547) hb); replace BK550 := am (blk_below (zk BK550) hb); replace HB := am (below_step (zb HB) hb); (try clear hb); (try clear hb2); (try clear hk); (try clear hi)))
  go_meet
  case rel => exact ⟨_, (!t555), ze, H', ⟨by first | omega | exact Nat.le_refl _⟩, ⟨zr HO544⟩, ⟨zs HO547⟩, ⟨zk BK550⟩, ⟨zb HB⟩⟩
 clear HC6
 try clear c1
 try clear c2
 try clear c2b0
 try clear c2b1
 try clear p2
 try clear c3
 try clear c13
 try clear c15
 try clear c15b0
 try clear c15b1
 try clear c15b2
 try clear c16
 try clear c16b0
 try clear c16b1
 try clear hcz10_0
 try clear hcz10_1
 try clear hcz13_0
 try clear hcz13_1
 try clear hcz18_0
 try clear hcz18_1
 try clear hfz10_0
 try clear hfz10_1
 try clear hfz13_0
 try clear hfz13_1
 try clear hfz18_0
 try clear hfz18_1
 obtain ⟨kq, x47_5, rfl, HA, HJ5, HO_551000, HO_551001, BK550, HB⟩ := hcut
 cases kq with
 | zero => exact absurd HA.out (by simp [laws_FnReadOnly.j0])
 | succ kj5 =>
  have H := HA.out
  clear HA
  simp only [laws_FnReadOnly.j0] at H
  by_cases c20 : x47_5 = true
  · subst c20
    have H1 : (if (t554 == t552) = true then (some (t553.toList == t551.toList)) else (some false)) = some r := by rw [if_pos rfl] at H; exact H
    clear H
    have H := H1
    clear H1
    by_cases c21 : (t554 == t552) = true
    · rw [if_pos c21] at H
      have c21b0 : (t554 == t552) = true := c21
      (try (have c21b1 : decide (t554 = t552) = true := by simpa using c21))
      (try (have c21b2 : (t554 == t552) = true := by simpa using c21))
      clear c21
      obtain rfl := Option.some.inj H
      go_wp2
      go_ret
      exact ⟨zv, (zb HB)⟩
    rw [if_neg c21] at H
    have c21b0 : (t554 == t552) = false := by simpa using c21
    (try (have c21b1 : decide (t554 = t552) = false := by simpa using c21))
    (try (have c21b2 : (t554 == t552) = false := by simpa using c21))
    (try (have c21b3 : ¬ (t554 = t552) := by simpa using c21))
    clear c21
    obtain rfl := Option.some.inj H
    go_wp2
    go_ret
    exact ⟨zv, (zb HB)⟩
  replace c20 := Bool.eq_false_iff.mpr c20
  subst c20
  have H1 : (if t554 = true then (laws_FnReadOnly.l0 kj5 t548 t549 t553 0 t542 t545) else (if t549 < 0 then (some true) else ((laws_lgBlocks.f kj5 t542 t545 t548).bind fun t556 => (some (decide (t549 ≥ t556)))))) = some r := by rw [if_neg (show ¬ (false = true) by decide)] at H; exact H
  clear H
  have H := H1
  clear H1
  by_cases c22 : t554 = true
  rotate_left
  · replace c22 := Bool.eq_false_iff.mpr c22
    subst c22
    have H1 : (if t549 < 0 then (some true) else ((laws_lgBlocks.f kj5 t542 t545 t548).bind fun t556 => (some (decide (t549 ≥ t556))))) = some r := by rw [if_neg (show ¬ (false = true) by decide)] at H; exact H
    clear H
    have H := H1
    clear H1
    by_cases c49 : t549 < 0
    · rw [if_pos c49] at H
      have c49b0 : decide (t549 < 0) = true := decide_eq_true c49
      clear c49
      obtain rfl := Option.some.inj H
      go_wp2
      go_ret
      exact ⟨zv, (zb HB)⟩
    rw [if_neg c49] at H
    have c49b0 : decide (t549 < 0) = false := decide_eq_false c49
    clear c49
    replace H := obs H
    obtain ⟨t556, A500, H⟩ := H
    replace H : (some (decide (t549 ≥ t556))) = some r := H
    have A50 := am A500
    clear A500
    obtain rfl := Option.some.inj H
    have hcz51_0 := ce0 BK550
    have hcz51_1 := ce1 BK550
    have hfz51_0 := bfz BK550 0
    have hfz51_1 := bfz BK550 1
    go_wp2_with (first | (go_at_call 38; (with_reducible refine (laws_lgBlocks.calls kj5 _ _ t542 _ _ t545 t548 t556 _ ?side1 ?side2 ?side3 ?side4 A50.out).mono ?_); (case side1 => exact zc (Kd.R_reads' HO_551000.out).2.2); (case side2 => exact (Kd.R_reads' HO_551000.out).2.1); (case side3 => exact zc (Kd.S_reads' HO_551001.out).2.2); (case side4 => exact (Kd.S_reads' HO_551001.out).2.1); rintro e w52 ⟨rfl, hb⟩; replace HO_551000 := am (Kd.R_below (zr HO_551000) hb); replace HO_551001 := am (Kd.S_below (zs HO_551001) hb); replace BK550 := am (blk_below (zk BK550) hb); replace HB := am (below_step (zb HB) hb); (try clear hb); (try clear hb2); (try clear hk); (try clear hi)))
    go_ret
    exact ⟨zv, (zb HB)⟩
  subst c22
  have H1 : (laws_FnReadOnly.l0 kj5 t548 t549 t553 0 t542 t545) = some r := by rw [if_pos rfl] at H; exact H
  clear H
  have H := H1
  clear H1
  have H' := am H
  clear H
  go_wp2
  go_loopg [10] kj5 (fun kq v10 w' => ∃ (x10_2 : Int), v10 = .int .i64 x10_2 ∧ Aside0 (laws_FnReadOnly.l0 kq t548 t549 t553 x10_2 t542 t545 = some r) ∧ Aside0 (kq ≤ kj5) ∧ Aside0 (Kd.R k55 55 w' w.heap.size (fun _ => True) (.slice Ao9 t542.length co9) t542) ∧ Aside0 (Kd.S k38 38 w' w.heap.size (fun _ => True) (.slice Ao11 t545.length co11) t545) ∧ Aside0 (w'.heap[gb550]? = some (.cells #[(.slice Ao9 t542.length co9), (.slice Ao11 t545.length co11)] 31 (0, 0))) ∧ Aside0 (Below w.heap.size w w'))
  case atStart => exact ⟨(0), ze, H', ⟨Nat.le_refl _⟩, ⟨zr HO_551000⟩, ⟨zs HO_551001⟩, ⟨zk BK550⟩, ⟨zb HB⟩⟩
  case round =>
   clear H'
   try clear c1
   try clear c2
   try clear c2b0
   try clear c2b1
   try clear p2
   try clear c3
   try clear c13
   try clear c15
   try clear c15b0
   try clear c15b1
   try clear c15b2
   try clear c16
   try clear c16b0
   try clear c16b1
   try clear c20
   try clear c21
   try clear c21b0
   try clear c21b1
   try clear c21b2
   try clear c22
   try clear hcz10_0
   try clear hcz10_1
   try clear hcz13_0
   try clear hcz13_1
   try clear hcz18_0
   try clear hcz18_1
   try clear hfz10_0
   try clear hfz10_1
   try clear hfz13_0
   try clear hfz13_1
   try clear hfz18_0
   try clear hfz18_1
   try clear p2
   obtain ⟨x10_2, rfl, HA, HK2, HO_551000, HO_551001, BK550, HB⟩ := hrel
   cases gk with
   | zero => exact absurd HA.out (by simp [laws_FnReadOnly.l0])
   | succ k2 =>
    have H := HA.out
    clear HA
    simp only [laws_FnReadOnly.l0] at H
    by_cases c23 : x10_2 < (t545.length : Int)
    rotate_left
    · rw [if_neg c23] at H
      have c23b0 : decide (x10_2 < (t545.length : Int)) = false := decide_eq_false c23
      clear c23
      obtain rfl := Option.some.inj H
      have hcz48_0 := ce0 BK550
      have hcz48_1 := ce1 BK550
      have hfz48_0 := bfz BK550 0
      have hfz48_1 := bfz BK550 1
      go_wp2
      go_ret
      exact ⟨zv, (zb HB)⟩
    rw [if_pos c23] at H
    have c23b0 : decide (x10_2 < (t545.length : Int)) = true := decide_eq_true c23
    clear c23
    by_cases c24 : 0 ≤ x10_2
    rotate_left
    · rw [if_neg c24] at H
      exact absurd H (by simp)
    rw [if_pos c24] at H
    have c24b0 : decide (0 ≤ x10_2) = true := decide_eq_true c24
    clear c24
    by_cases c25 : ((rd_T38 t545 x10_2).f0).toList = t548.toList
    rotate_left
    · rw [if_neg c25] at H
      have c25b0 : (((rd_T38 t545 x10_2).f0).toList == t548.toList) = false := beq_eq_false_iff_ne.mpr c25
      have c25b1 : (((rd_T38 t545 x10_2).f0).toList != t548.toList) = true := bne_iff_ne.mpr c25
      have H' := am H
      clear H
      have hcz47_0 := ce0 BK550
      have hcz47_1 := ce1 BK550
      have hfz47_0 := bfz BK550 0
      have hfz47_1 := bfz BK550 1
      have p557 : 0 ≤ (x10_2 : Int) := of_decide_eq_true zl
      have q557 : x10_2 < (t545.length : Int) := of_decide_eq_true zl
      obtain ⟨ad557, A557_1, c557_1, e557, hx557_0, hx557_1, hl557_1, hi557_1⟩ := at_T38 (Kd.S_reads' HO_551001.out).2.2 x10_2 p557 q557
      cases e557
      obtain ⟨ce557, hce557, hMe557, hcc557⟩ := Kd.S_get HO_551001.out z38 x10_2 p557 (by first | exact q557 | exact of_decide_eq_true zl | (have e_ := (Kd.S_reads' HO_551001.out).1; omega))
      obtain ⟨ve557_1, rfl, ge557_1⟩ := k38_openM hMe557
      have hv557_1 := hcc557 1 _ rfl
      rw [add_field _ _ 1 (by omega)] at hv557_1
      replace hv557_1 := Option.some.inj (hv557_1.symm.trans hx557_1)
      rw [hv557_1] at ge557_1
      have HL557_1 := am (show Kd.R (Kd.int .i64) 3 _ _ _ _ ((rd_T38 t545 x10_2).f1) from ge557_1)
      clear hv557_1 ge557_1 hcc557 hce557
      have HR557_1 := am hi557_1
      have HC557_1 := am hl557_1
      clear hi557_1 hl557_1
      replace p557 := eq_true p557
      replace q557 := eq_true q557
      go_wp2
      go_roundg k2
      case measure => have := HJ5.out; have := HK2.out; omega
      case rel => exact ⟨(wrap64 (x10_2 + 1)), ze, H', ⟨by have := HJ5.out; have := HK2.out; omega⟩, ⟨zr HO_551000⟩, ⟨zs HO_551001⟩, ⟨zk BK550⟩, ⟨zb HB⟩⟩
    rw [if_pos c25] at H
    have c25b0 : (((rd_T38 t545 x10_2).f0).toList == t548.toList) = true := beq_iff_eq.mpr c25
    have c25b1 : (((rd_T38 t545 x10_2).f0).toList != t548.toList) = false := bne_eq_false_iff_eq.mpr c25
    clear c25
    by_cases c26 : 0 ≤ t549
    rotate_left
    · rw [if_neg c26] at H
      exact absurd H (by simp)
    rw [if_pos c26] at H
    have c26b0 : decide (0 ≤ t549) = true := decide_eq_true c26
    clear c26
    by_cases c27 : t549 < (((rd_T38 t545 x10_2).f1).length : Int)
    rotate_left
    · rw [if_neg c27] at H
      exact absurd H (by simp)
    rw [if_pos c27] at H
    have c27b0 : decide (t549 < (((rd_T38 t545 x10_2).f1).length : Int)) = true := decide_eq_true c27
    clear c27
    by_cases c28 : (rd ((rd_T38 t545 x10_2).f1) t549) = 0
    rotate_left
    · rw [if_neg c28] at H
      have c28b0 : ((rd ((rd_T38 t545 x10_2).f1) t549) == 0) = false := beq_eq_false_iff_ne.mpr c28
      have c28b1 : ((rd ((rd_T38 t545 x10_2).f1) t549) != 0) = true := bne_iff_ne.mpr c28
      by_cases c39 : (rd ((rd_T38 t545 x10_2).f1) t549) > 0
      rotate_left
      · rw [if_neg c39] at H
        have c39b0 : decide (0 < (rd ((rd_T38 t545 x10_2).f1) t549)) = false := decide_eq_false c39
        clear c39
        obtain rfl := Option.some.inj H
        have hcz46_0 := ce0 BK550
        have hcz46_1 := ce1 BK550
        have hfz46_0 := bfz BK550 0
        have hfz46_1 := bfz BK550 1
        have p557 : 0 ≤ (x10_2 : Int) := of_decide_eq_true zl
        have q557 : x10_2 < (t545.length : Int) := of_decide_eq_true zl
        obtain ⟨ad557, A557_1, c557_1, e557, hx557_0, hx557_1, hl557_1, hi557_1⟩ := at_T38 (Kd.S_reads' HO_551001.out).2.2 x10_2 p557 q557
        cases e557
        obtain ⟨ce557, hce557, hMe557, hcc557⟩ := Kd.S_get HO_551001.out z38 x10_2 p557 (by first | exact q557 | exact of_decide_eq_true zl | (have e_ := (Kd.S_reads' HO_551001.out).1; omega))
        obtain ⟨ve557_1, rfl, ge557_1⟩ := k38_openM hMe557
        have hv557_1 := hcc557 1 _ rfl
        rw [add_field _ _ 1 (by omega)] at hv557_1
        replace hv557_1 := Option.some.inj (hv557_1.symm.trans hx557_1)
        rw [hv557_1] at ge557_1
        have HL557_1 := am (show Kd.R (Kd.int .i64) 3 _ _ _ _ ((rd_T38 t545 x10_2).f1) from ge557_1)
        clear hv557_1 ge557_1 hcc557 hce557
        have HR557_1 := am hi557_1
        have HC557_1 := am hl557_1
        clear hi557_1 hl557_1
        replace p557 := eq_true p557
        replace q557 := eq_true q557
        have p558 : 0 ≤ (x10_2 : Int) := of_decide_eq_true zl
        have q558 : x10_2 < (t545.length : Int) := of_decide_eq_true zl
        obtain ⟨ad558, A558_1, c558_1, e558, hx558_0, hx558_1, hl558_1, hi558_1⟩ := at_T38 (Kd.S_reads' HO_551001.out).2.2 x10_2 p558 q558
        obtain rfl : ad557 = ad558 := (by injection e558)
        obtain ⟨ce558, hce558, hMe558, hcc558⟩ := Kd.S_get HO_551001.out z38 x10_2 p558 (by first | exact q558 | exact of_decide_eq_true zl | (have e_ := (Kd.S_reads' HO_551001.out).1; omega))
        obtain ⟨ve558_1, rfl, ge558_1⟩ := k38_openM hMe558
        have hv558_1 := hcc558 1 _ rfl
        rw [add_field _ _ 1 (by omega)] at hv558_1
        replace hv558_1 := Option.some.inj (hv558_1.symm.trans hx558_1)
        rw [hv558_1] at ge558_1
        have HL558_1 := am (show Kd.R (Kd.int .i64) 3 _ _ _ _ ((rd_T38 t545 x10_2).f1) from ge558_1)
        clear hv558_1 ge558_1 hcc558 hce558
        have HR558_1 := am hi558_1
        have HC558_1 := am hl558_1
        clear hi558_1 hl558_1
        replace p558 := eq_true p558
        replace q558 := eq_true q558
        have ea_ := Option.some.inj (hx557_1.symm.trans hx558_1)
        injection ea_ with ea_ en_ ec_
        subst ea_
        subst ec_
        clear en_
        have p559 : 0 ≤ (t549 : Int) := of_decide_eq_true zl
        have q559 : t549 < (((rd_T38 t545 x10_2).f1).length : Int) := of_decide_eq_true zl
        obtain ⟨ad559, e559, hx559_0⟩ := Kd.at_int (zc HR558_1.out) t549 p559 q559
        cases e559
        replace p559 := eq_true p559
        replace q559 := eq_true q559
        go_wp2
        go_ret
        exact ⟨zv, (zb HB)⟩
      rw [if_pos c39] at H
      have c39b0 : decide (0 < (rd ((rd_T38 t545 x10_2).f1) t549)) = true := decide_eq_true c39
      clear c39
      obtain ⟨ji40, hji40⟩ : ∃ j_ : Int, (wrap64 ((rd ((rd_T38 t545 x10_2).f1) t549) - 1)) = j_ := ⟨_, rfl⟩
      replace H : (if 0 ≤ (ji40) then (if (ji40) < (t542.length : Int) then (if t553.toList = ((rd_T55 t542 (ji40)).f0).toList then (some (t553.toList != ([] : List UInt8))) else (some false)) else (none)) else (none)) = some r := by first | (rw [hji40] at H; exact H) | (simp only [hji40] at H ⊢; exact H)
      have hji40w : (IntKind.i64.wrap ((rd ((rd_T38 t545 x10_2).f1) t549) - 1)) = ji40 := (i64_w _).trans hji40
      by_cases c41 : 0 ≤ (ji40)
      rotate_left
      · rw [if_neg c41] at H
        exact absurd H (by simp)
      rw [if_pos c41] at H
      have c41b0 : decide (0 ≤ (ji40)) = true := decide_eq_true c41
      clear c41
      by_cases c42 : (ji40) < (t542.length : Int)
      rotate_left
      · rw [if_neg c42] at H
        exact absurd H (by simp)
      rw [if_pos c42] at H
      have c42b0 : decide ((ji40) < (t542.length : Int)) = true := decide_eq_true c42
      clear c42
      by_cases c43 : t553.toList = ((rd_T55 t542 (ji40)).f0).toList
      · rw [if_pos c43] at H
        have c43b0 : (t553.toList == ((rd_T55 t542 (ji40)).f0).toList) = true := beq_iff_eq.mpr c43
        have c43b1 : (t553.toList != ((rd_T55 t542 (ji40)).f0).toList) = false := bne_eq_false_iff_eq.mpr c43
        clear c43
        obtain rfl := Option.some.inj H
        have hcz44_0 := ce0 BK550
        have hcz44_1 := ce1 BK550
        have hfz44_0 := bfz BK550 0
        have hfz44_1 := bfz BK550 1
        have p557 : 0 ≤ (x10_2 : Int) := of_decide_eq_true zl
        have q557 : x10_2 < (t545.length : Int) := of_decide_eq_true zl
        obtain ⟨ad557, A557_1, c557_1, e557, hx557_0, hx557_1, hl557_1, hi557_1⟩ := at_T38 (Kd.S_reads' HO_551001.out).2.2 x10_2 p557 q557
        cases e557
        obtain ⟨ce557, hce557, hMe557, hcc557⟩ := Kd.S_get HO_551001.out z38 x10_2 p557 (by first | exact q557 | exact of_decide_eq_true zl | (have e_ := (Kd.S_reads' HO_551001.out).1; omega))
        obtain ⟨ve557_1, rfl, ge557_1⟩ := k38_openM hMe557
        have hv557_1 := hcc557 1 _ rfl
        rw [add_field _ _ 1 (by omega)] at hv557_1
        replace hv557_1 := Option.some.inj (hv557_1.symm.trans hx557_1)
        rw [hv557_1] at ge557_1
        have HL557_1 := am (show Kd.R (Kd.int .i64) 3 _ _ _ _ ((rd_T38 t545 x10_2).f1) from ge557_1)
        clear hv557_1 ge557_1 hcc557 hce557
        have HR557_1 := am hi557_1
        have HC557_1 := am hl557_1
        clear hi557_1 hl557_1
        replace p557 := eq_true p557
        replace q557 := eq_true q557
        have p558 : 0 ≤ (x10_2 : Int) := of_decide_eq_true zl
        have q558 : x10_2 < (t545.length : Int) := of_decide_eq_true zl
        obtain ⟨ad558, A558_1, c558_1, e558, hx558_0, hx558_1, hl558_1, hi558_1⟩ := at_T38 (Kd.S_reads' HO_551001.out).2.2 x10_2 p558 q558
        obtain rfl : ad557 = ad558 := (by injection e558)
        obtain ⟨ce558, hce558, hMe558, hcc558⟩ := Kd.S_get HO_551001.out z38 x10_2 p558 (by first | exact q558 | exact of_decide_eq_true zl | (have e_ := (Kd.S_reads' HO_551001.out).1; omega))
        obtain ⟨ve558_1, rfl, ge558_1⟩ := k38_openM hMe558
        have hv558_1 := hcc558 1 _ rfl
        rw [add_field _ _ 1 (by omega)] at hv558_1
        replace hv558_1 := Option.some.inj (hv558_1.symm.trans hx558_1)
        rw [hv558_1] at ge558_1
        have HL558_1 := am (show Kd.R (Kd.int .i64) 3 _ _ _ _ ((rd_T38 t545 x10_2).f1) from ge558_1)
        clear hv558_1 ge558_1 hcc558 hce558
        have HR558_1 := am hi558_1
        have HC558_1 := am hl558_1
        clear hi558_1 hl558_1
        replace p558 := eq_true p558
        replace q558 := eq_true q558
        have ea_ := Option.some.inj (hx557_1.symm.trans hx558_1)
        injection ea_ with ea_ en_ ec_
        subst ea_
        subst ec_
        clear en_
        have p559 : 0 ≤ (t549 : Int) := of_decide_eq_true zl
        have q559 : t549 < (((rd_T38 t545 x10_2).f1).length : Int) := of_decide_eq_true zl
        obtain ⟨ad559, e559, hx559_0⟩ := Kd.at_int (zc HR558_1.out) t549 p559 q559
        cases e559
        replace p559 := eq_true p559
        replace q559 := eq_true q559
        have p561 : 0 ≤ ((ji40) : Int) := of_decide_eq_true zl
        have q561 : (ji40) < (t542.length : Int) := of_decide_eq_true zl
        obtain ⟨ad561, e561, hx561_0, hx561_1⟩ := at_T55 (Kd.R_reads' HO_551000.out).2.2 (ji40) p561 q561
        cases e561
        replace p561 := eq_true p561
        replace q561 := eq_true q561
        go_wp2
        go_ret
        exact ⟨by first | exact zv | (simp only [← hji40]; exact zw), (zb HB)⟩
      rw [if_neg c43] at H
      have c43b0 : (t553.toList == ((rd_T55 t542 (ji40)).f0).toList) = false := beq_eq_false_iff_ne.mpr c43
      have c43b1 : (t553.toList != ((rd_T55 t542 (ji40)).f0).toList) = true := bne_iff_ne.mpr c43
      obtain rfl := Option.some.inj H
      have hcz45_0 := ce0 BK550
      have hcz45_1 := ce1 BK550
      have hfz45_0 := bfz BK550 0
      have hfz45_1 := bfz BK550 1
      have p557 : 0 ≤ (x10_2 : Int) := of_decide_eq_true zl
      have q557 : x10_2 < (t545.length : Int) := of_decide_eq_true zl
      obtain ⟨ad557, A557_1, c557_1, e557, hx557_0, hx557_1, hl557_1, hi557_1⟩ := at_T38 (Kd.S_reads' HO_551001.out).2.2 x10_2 p557 q557
      cases e557
      obtain ⟨ce557, hce557, hMe557, hcc557⟩ := Kd.S_get HO_551001.out z38 x10_2 p557 (by first | exact q557 | exact of_decide_eq_true zl | (have e_ := (Kd.S_reads' HO_551001.out).1; omega))
      obtain ⟨ve557_1, rfl, ge557_1⟩ := k38_openM hMe557
      have hv557_1 := hcc557 1 _ rfl
      rw [add_field _ _ 1 (by omega)] at hv557_1
      replace hv557_1 := Option.some.inj (hv557_1.symm.trans hx557_1)
      rw [hv557_1] at ge557_1
      have HL557_1 := am (show Kd.R (Kd.int .i64) 3 _ _ _ _ ((rd_T38 t545 x10_2).f1) from ge557_1)
      clear hv557_1 ge557_1 hcc557 hce557
      have HR557_1 := am hi557_1
      have HC557_1 := am hl557_1
      clear hi557_1 hl557_1
      replace p557 := eq_true p557
      replace q557 := eq_true q557
      have p558 : 0 ≤ (x10_2 : Int) := of_decide_eq_true zl
      have q558 : x10_2 < (t545.length : Int) := of_decide_eq_true zl
      obtain ⟨ad558, A558_1, c558_1, e558, hx558_0, hx558_1, hl558_1, hi558_1⟩ := at_T38 (Kd.S_reads' HO_551001.out).2.2 x10_2 p558 q558
      obtain rfl : ad557 = ad558 := (by injection e558)
      obtain ⟨ce558, hce558, hMe558, hcc558⟩ := Kd.S_get HO_551001.out z38 x10_2 p558 (by first | exact q558 | exact of_decide_eq_true zl | (have e_ := (Kd.S_reads' HO_551001.out).1; omega))
      obtain ⟨ve558_1, rfl, ge558_1⟩ := k38_openM hMe558
      have hv558_1 := hcc558 1 _ rfl
      rw [add_field _ _ 1 (by omega)] at hv558_1
      replace hv558_1 := Option.some.inj (hv558_1.symm.trans hx558_1)
      rw [hv558_1] at ge558_1
      have HL558_1 := am (show Kd.R (Kd.int .i64) 3 _ _ _ _ ((rd_T38 t545 x10_2).f1) from ge558_1)
      clear hv558_1 ge558_1 hcc558 hce558
      have HR558_1 := am hi558_1
      have HC558_1 := am hl558_1
      clear hi558_1 hl558_1
      replace p558 := eq_true p558
      replace q558 := eq_true q558
      have ea_ := Option.some.inj (hx557_1.symm.trans hx558_1)
      injection ea_ with ea_ en_ ec_
      subst ea_
      subst ec_
      clear en_
      have p559 : 0 ≤ (t549 : Int) := of_decide_eq_true zl
      have q559 : t549 < (((rd_T38 t545 x10_2).f1).length : Int) := of_decide_eq_true zl
      obtain ⟨ad559, e559, hx559_0⟩ := Kd.at_int (zc HR558_1.out) t549 p559 q559
      cases e559
      replace p559 := eq_true p559
      replace q559 := eq_true q559
      have p561 : 0 ≤ ((ji40) : Int) := of_decide_eq_true zl
      have q561 : (ji40) < (t542.length : Int) := of_decide_eq_true zl
      obtain ⟨ad561, e561, hx561_0, hx561_1⟩ := at_T55 (Kd.R_reads' HO_551000.out).2.2 (ji40) p561 q561
      cases e561
      replace p561 := eq_true p561
      replace q561 := eq_true q561
      go_wp2
      go_ret
      exact ⟨by first | exact zv | (simp only [← hji40]; exact zw), (zb HB)⟩
    rw [if_pos c28] at H
    have c28b0 : ((rd ((rd_T38 t545 x10_2).f1) t549) == 0) = true := beq_iff_eq.mpr c28
    have c28b1 : ((rd ((rd_T38 t545 x10_2).f1) t549) != 0) = false := bne_eq_false_iff_eq.mpr c28
    clear c28
    by_cases c29 : t553.toList = ([] : List UInt8)
    · rw [if_pos c29] at H
      have c29b0 : (t553.toList == ([] : List UInt8)) = true := beq_iff_eq.mpr c29
      have c29b1 : (t553.toList != ([] : List UInt8)) = false := bne_eq_false_iff_eq.mpr c29
      clear c29
      obtain rfl := Option.some.inj H
      have hcz30_0 := ce0 BK550
      have hcz30_1 := ce1 BK550
      have hfz30_0 := bfz BK550 0
      have hfz30_1 := bfz BK550 1
      have p557 : 0 ≤ (x10_2 : Int) := of_decide_eq_true zl
      have q557 : x10_2 < (t545.length : Int) := of_decide_eq_true zl
      obtain ⟨ad557, A557_1, c557_1, e557, hx557_0, hx557_1, hl557_1, hi557_1⟩ := at_T38 (Kd.S_reads' HO_551001.out).2.2 x10_2 p557 q557
      cases e557
      obtain ⟨ce557, hce557, hMe557, hcc557⟩ := Kd.S_get HO_551001.out z38 x10_2 p557 (by first | exact q557 | exact of_decide_eq_true zl | (have e_ := (Kd.S_reads' HO_551001.out).1; omega))
      obtain ⟨ve557_1, rfl, ge557_1⟩ := k38_openM hMe557
      have hv557_1 := hcc557 1 _ rfl
      rw [add_field _ _ 1 (by omega)] at hv557_1
      replace hv557_1 := Option.some.inj (hv557_1.symm.trans hx557_1)
      rw [hv557_1] at ge557_1
      have HL557_1 := am (show Kd.R (Kd.int .i64) 3 _ _ _ _ ((rd_T38 t545 x10_2).f1) from ge557_1)
      clear hv557_1 ge557_1 hcc557 hce557
      have HR557_1 := am hi557_1
      have HC557_1 := am hl557_1
      clear hi557_1 hl557_1
      replace p557 := eq_true p557
      replace q557 := eq_true q557
      have p558 : 0 ≤ (x10_2 : Int) := of_decide_eq_true zl
      have q558 : x10_2 < (t545.length : Int) := of_decide_eq_true zl
      obtain ⟨ad558, A558_1, c558_1, e558, hx558_0, hx558_1, hl558_1, hi558_1⟩ := at_T38 (Kd.S_reads' HO_551001.out).2.2 x10_2 p558 q558
      obtain rfl : ad557 = ad558 := (by injection e558)
      obtain ⟨ce558, hce558, hMe558, hcc558⟩ := Kd.S_get HO_551001.out z38 x10_2 p558 (by first | exact q558 | exact of_decide_eq_true zl | (have e_ := (Kd.S_reads' HO_551001.out).1; omega))
      obtain ⟨ve558_1, rfl, ge558_1⟩ := k38_openM hMe558
      have hv558_1 := hcc558 1 _ rfl
      rw [add_field _ _ 1 (by omega)] at hv558_1
      replace hv558_1 := Option.some.inj (hv558_1.symm.trans hx558_1)
      rw [hv558_1] at ge558_1
      have HL558_1 := am (show Kd.R (Kd.int .i64) 3 _ _ _ _ ((rd_T38 t545 x10_2).f1) from ge558_1)
      clear hv558_1 ge558_1 hcc558 hce558
      have HR558_1 := am hi558_1
      have HC558_1 := am hl558_1
      clear hi558_1 hl558_1
      replace p558 := eq_true p558
      replace q558 := eq_true q558
      have ea_ := Option.some.inj (hx557_1.symm.trans hx558_1)
      injection ea_ with ea_ en_ ec_
      subst ea_
      subst ec_
      clear en_
      have p559 : 0 ≤ (t549 : Int) := of_decide_eq_true zl
      have q559 : t549 < (((rd_T38 t545 x10_2).f1).length : Int) := of_decide_eq_true zl
      obtain ⟨ad559, e559, hx559_0⟩ := Kd.at_int (zc HR558_1.out) t549 p559 q559
      cases e559
      replace p559 := eq_true p559
      replace q559 := eq_true q559
      go_wp2
      go_ret
      exact ⟨zv, (zb HB)⟩
    rw [if_neg c29] at H
    have c29b0 : (t553.toList == ([] : List UInt8)) = false := beq_eq_false_iff_ne.mpr c29
    have c29b1 : (t553.toList != ([] : List UInt8)) = true := bne_iff_ne.mpr c29
    by_cases c31 : (rd ((rd_T38 t545 x10_2).f1) t549) > 0
    rotate_left
    · rw [if_neg c31] at H
      have c31b0 : decide (0 < (rd ((rd_T38 t545 x10_2).f1) t549)) = false := decide_eq_false c31
      clear c31
      obtain rfl := Option.some.inj H
      have hcz38_0 := ce0 BK550
      have hcz38_1 := ce1 BK550
      have hfz38_0 := bfz BK550 0
      have hfz38_1 := bfz BK550 1
      have p557 : 0 ≤ (x10_2 : Int) := of_decide_eq_true zl
      have q557 : x10_2 < (t545.length : Int) := of_decide_eq_true zl
      obtain ⟨ad557, A557_1, c557_1, e557, hx557_0, hx557_1, hl557_1, hi557_1⟩ := at_T38 (Kd.S_reads' HO_551001.out).2.2 x10_2 p557 q557
      cases e557
      obtain ⟨ce557, hce557, hMe557, hcc557⟩ := Kd.S_get HO_551001.out z38 x10_2 p557 (by first | exact q557 | exact of_decide_eq_true zl | (have e_ := (Kd.S_reads' HO_551001.out).1; omega))
      obtain ⟨ve557_1, rfl, ge557_1⟩ := k38_openM hMe557
      have hv557_1 := hcc557 1 _ rfl
      rw [add_field _ _ 1 (by omega)] at hv557_1
      replace hv557_1 := Option.some.inj (hv557_1.symm.trans hx557_1)
      rw [hv557_1] at ge557_1
      have HL557_1 := am (show Kd.R (Kd.int .i64) 3 _ _ _ _ ((rd_T38 t545 x10_2).f1) from ge557_1)
      clear hv557_1 ge557_1 hcc557 hce557
      have HR557_1 := am hi557_1
      have HC557_1 := am hl557_1
      clear hi557_1 hl557_1
      replace p557 := eq_true p557
      replace q557 := eq_true q557
      have p558 : 0 ≤ (x10_2 : Int) := of_decide_eq_true zl
      have q558 : x10_2 < (t545.length : Int) := of_decide_eq_true zl
      obtain ⟨ad558, A558_1, c558_1, e558, hx558_0, hx558_1, hl558_1, hi558_1⟩ := at_T38 (Kd.S_reads' HO_551001.out).2.2 x10_2 p558 q558
      obtain rfl : ad557 = ad558 := (by injection e558)
      obtain ⟨ce558, hce558, hMe558, hcc558⟩ := Kd.S_get HO_551001.out z38 x10_2 p558 (by first | exact q558 | exact of_decide_eq_true zl | (have e_ := (Kd.S_reads' HO_551001.out).1; omega))
      obtain ⟨ve558_1, rfl, ge558_1⟩ := k38_openM hMe558
      have hv558_1 := hcc558 1 _ rfl
      rw [add_field _ _ 1 (by omega)] at hv558_1
      replace hv558_1 := Option.some.inj (hv558_1.symm.trans hx558_1)
      rw [hv558_1] at ge558_1
      have HL558_1 := am (show Kd.R (Kd.int .i64) 3 _ _ _ _ ((rd_T38 t545 x10_2).f1) from ge558_1)
      clear hv558_1 ge558_1 hcc558 hce558
      have HR558_1 := am hi558_1
      have HC558_1 := am hl558_1
      clear hi558_1 hl558_1
      replace p558 := eq_true p558
      replace q558 := eq_true q558
      have ea_ := Option.some.inj (hx557_1.symm.trans hx558_1)
      injection ea_ with ea_ en_ ec_
      subst ea_
      subst ec_
      clear en_
      have p559 : 0 ≤ (t549 : Int) := of_decide_eq_true zl
      have q559 : t549 < (((rd_T38 t545 x10_2).f1).length : Int) := of_decide_eq_true zl
      obtain ⟨ad559, e559, hx559_0⟩ := Kd.at_int (zc HR558_1.out) t549 p559 q559
      cases e559
      replace p559 := eq_true p559
      replace q559 := eq_true q559
      go_wp2
      go_ret
      exact ⟨zv, (zb HB)⟩
    rw [if_pos c31] at H
    have c31b0 : decide (0 < (rd ((rd_T38 t545 x10_2).f1) t549)) = true := decide_eq_true c31
    clear c31
    obtain ⟨ji32, hji32⟩ : ∃ j_ : Int, (wrap64 ((rd ((rd_T38 t545 x10_2).f1) t549) - 1)) = j_ := ⟨_, rfl⟩
    replace H : (if 0 ≤ (ji32) then (if (ji32) < (t542.length : Int) then (if t553.toList = ((rd_T55 t542 (ji32)).f0).toList then (some (t553.toList != ([] : List UInt8))) else (some false)) else (none)) else (none)) = some r := by first | (rw [hji32] at H; exact H) | (simp only [hji32] at H ⊢; exact H)
    have hji32w : (IntKind.i64.wrap ((rd ((rd_T38 t545 x10_2).f1) t549) - 1)) = ji32 := (i64_w _).trans hji32
    by_cases c33 : 0 ≤ (ji32)
    rotate_left
    · rw [if_neg c33] at H
      exact absurd H (by simp)
    rw [if_pos c33] at H
    have c33b0 : decide (0 ≤ (ji32)) = true := decide_eq_true c33
    clear c33
    by_cases c34 : (ji32) < (t542.length : Int)
    rotate_left
    · rw [if_neg c34] at H
      exact absurd H (by simp)
    rw [if_pos c34] at H
    have c34b0 : decide ((ji32) < (t542.length : Int)) = true := decide_eq_true c34
    clear c34
    by_cases c35 : t553.toList = ((rd_T55 t542 (ji32)).f0).toList
    · rw [if_pos c35] at H
      have c35b0 : (t553.toList == ((rd_T55 t542 (ji32)).f0).toList) = true := beq_iff_eq.mpr c35
      have c35b1 : (t553.toList != ((rd_T55 t542 (ji32)).f0).toList) = false := bne_eq_false_iff_eq.mpr c35
      clear c35
      obtain rfl := Option.some.inj H
      have hcz36_0 := ce0 BK550
      have hcz36_1 := ce1 BK550
      have hfz36_0 := bfz BK550 0
      have hfz36_1 := bfz BK550 1
      have p557 : 0 ≤ (x10_2 : Int) := of_decide_eq_true zl
      have q557 : x10_2 < (t545.length : Int) := of_decide_eq_true zl
      obtain ⟨ad557, A557_1, c557_1, e557, hx557_0, hx557_1, hl557_1, hi557_1⟩ := at_T38 (Kd.S_reads' HO_551001.out).2.2 x10_2 p557 q557
      cases e557
      obtain ⟨ce557, hce557, hMe557, hcc557⟩ := Kd.S_get HO_551001.out z38 x10_2 p557 (by first | exact q557 | exact of_decide_eq_true zl | (have e_ := (Kd.S_reads' HO_551001.out).1; omega))
      obtain ⟨ve557_1, rfl, ge557_1⟩ := k38_openM hMe557
      have hv557_1 := hcc557 1 _ rfl
      rw [add_field _ _ 1 (by omega)] at hv557_1
      replace hv557_1 := Option.some.inj (hv557_1.symm.trans hx557_1)
      rw [hv557_1] at ge557_1
      have HL557_1 := am (show Kd.R (Kd.int .i64) 3 _ _ _ _ ((rd_T38 t545 x10_2).f1) from ge557_1)
      clear hv557_1 ge557_1 hcc557 hce557
      have HR557_1 := am hi557_1
      have HC557_1 := am hl557_1
      clear hi557_1 hl557_1
      replace p557 := eq_true p557
      replace q557 := eq_true q557
      have p558 : 0 ≤ (x10_2 : Int) := of_decide_eq_true zl
      have q558 : x10_2 < (t545.length : Int) := of_decide_eq_true zl
      obtain ⟨ad558, A558_1, c558_1, e558, hx558_0, hx558_1, hl558_1, hi558_1⟩ := at_T38 (Kd.S_reads' HO_551001.out).2.2 x10_2 p558 q558
      obtain rfl : ad557 = ad558 := (by injection e558)
      obtain ⟨ce558, hce558, hMe558, hcc558⟩ := Kd.S_get HO_551001.out z38 x10_2 p558 (by first | exact q558 | exact of_decide_eq_true zl | (have e_ := (Kd.S_reads' HO_551001.out).1; omega))
      obtain ⟨ve558_1, rfl, ge558_1⟩ := k38_openM hMe558
      have hv558_1 := hcc558 1 _ rfl
      rw [add_field _ _ 1 (by omega)] at hv558_1
      replace hv558_1 := Option.some.inj (hv558_1.symm.trans hx558_1)
      rw [hv558_1] at ge558_1
      have HL558_1 := am (show Kd.R (Kd.int .i64) 3 _ _ _ _ ((rd_T38 t545 x10_2).f1) from ge558_1)
      clear hv558_1 ge558_1 hcc558 hce558
      have HR558_1 := am hi558_1
      have HC558_1 := am hl558_1
      clear hi558_1 hl558_1
      replace p558 := eq_true p558
      replace q558 := eq_true q558
      have ea_ := Option.some.inj (hx557_1.symm.trans hx558_1)
      injection ea_ with ea_ en_ ec_
      subst ea_
      subst ec_
      clear en_
      have p559 : 0 ≤ (t549 : Int) := of_decide_eq_true zl
      have q559 : t549 < (((rd_T38 t545 x10_2).f1).length : Int) := of_decide_eq_true zl
      obtain ⟨ad559, e559, hx559_0⟩ := Kd.at_int (zc HR558_1.out) t549 p559 q559
      cases e559
      replace p559 := eq_true p559
      replace q559 := eq_true q559
      have p560 : 0 ≤ ((ji32) : Int) := of_decide_eq_true zl
      have q560 : (ji32) < (t542.length : Int) := of_decide_eq_true zl
      obtain ⟨ad560, e560, hx560_0, hx560_1⟩ := at_T55 (Kd.R_reads' HO_551000.out).2.2 (ji32) p560 q560
      cases e560
      replace p560 := eq_true p560
      replace q560 := eq_true q560
      go_wp2
      go_ret
      exact ⟨by first | exact zv | (simp only [← hji32]; exact zw), (zb HB)⟩
    rw [if_neg c35] at H
    have c35b0 : (t553.toList == ((rd_T55 t542 (ji32)).f0).toList) = false := beq_eq_false_iff_ne.mpr c35
    have c35b1 : (t553.toList != ((rd_T55 t542 (ji32)).f0).toList) = true := bne_iff_ne.mpr c35
    obtain rfl := Option.some.inj H
    have hcz37_0 := ce0 BK550
    have hcz37_1 := ce1 BK550
    have hfz37_0 := bfz BK550 0
    have hfz37_1 := bfz BK550 1
    have p557 : 0 ≤ (x10_2 : Int) := of_decide_eq_true zl
    have q557 : x10_2 < (t545.length : Int) := of_decide_eq_true zl
    obtain ⟨ad557, A557_1, c557_1, e557, hx557_0, hx557_1, hl557_1, hi557_1⟩ := at_T38 (Kd.S_reads' HO_551001.out).2.2 x10_2 p557 q557
    cases e557
    obtain ⟨ce557, hce557, hMe557, hcc557⟩ := Kd.S_get HO_551001.out z38 x10_2 p557 (by first | exact q557 | exact of_decide_eq_true zl | (have e_ := (Kd.S_reads' HO_551001.out).1; omega))
    obtain ⟨ve557_1, rfl, ge557_1⟩ := k38_openM hMe557
    have hv557_1 := hcc557 1 _ rfl
    rw [add_field _ _ 1 (by omega)] at hv557_1
    replace hv557_1 := Option.some.inj (hv557_1.symm.trans hx557_1)
    rw [hv557_1] at ge557_1
    have HL557_1 := am (show Kd.R (Kd.int .i64) 3 _ _ _ _ ((rd_T38 t545 x10_2).f1) from ge557_1)
    clear hv557_1 ge557_1 hcc557 hce557
    have HR557_1 := am hi557_1
    have HC557_1 := am hl557_1
    clear hi557_1 hl557_1
    replace p557 := eq_true p557
    replace q557 := eq_true q557
    have p558 : 0 ≤ (x10_2 : Int) := of_decide_eq_true zl
    have q558 : x10_2 < (t545.length : Int) := of_decide_eq_true zl
    obtain ⟨ad558, A558_1, c558_1, e558, hx558_0, hx558_1, hl558_1, hi558_1⟩ := at_T38 (Kd.S_reads' HO_551001.out).2.2 x10_2 p558 q558
    obtain rfl : ad557 = ad558 := (by injection e558)
    obtain ⟨ce558, hce558, hMe558, hcc558⟩ := Kd.S_get HO_551001.out z38 x10_2 p558 (by first | exact q558 | exact of_decide_eq_true zl | (have e_ := (Kd.S_reads' HO_551001.out).1; omega))
    obtain ⟨ve558_1, rfl, ge558_1⟩ := k38_openM hMe558
    have hv558_1 := hcc558 1 _ rfl
    rw [add_field _ _ 1 (by omega)] at hv558_1
    replace hv558_1 := Option.some.inj (hv558_1.symm.trans hx558_1)
    rw [hv558_1] at ge558_1
    have HL558_1 := am (show Kd.R (Kd.int .i64) 3 _ _ _ _ ((rd_T38 t545 x10_2).f1) from ge558_1)
    clear hv558_1 ge558_1 hcc558 hce558
    have HR558_1 := am hi558_1
    have HC558_1 := am hl558_1
    clear hi558_1 hl558_1
    replace p558 := eq_true p558
    replace q558 := eq_true q558
    have ea_ := Option.some.inj (hx557_1.symm.trans hx558_1)
    injection ea_ with ea_ en_ ec_
    subst ea_
    subst ec_
    clear en_
    have p559 : 0 ≤ (t549 : Int) := of_decide_eq_true zl
    have q559 : t549 < (((rd_T38 t545 x10_2).f1).length : Int) := of_decide_eq_true zl
    obtain ⟨ad559, e559, hx559_0⟩ := Kd.at_int (zc HR558_1.out) t549 p559 q559
    cases e559
    replace p559 := eq_true p559
    replace q559 := eq_true q559
    have p560 : 0 ≤ ((ji32) : Int) := of_decide_eq_true zl
    have q560 : (ji32) < (t542.length : Int) := of_decide_eq_true zl
    obtain ⟨ad560, e560, hx560_0, hx560_1⟩ := at_T55 (Kd.R_reads' HO_551000.out).2.2 (ji32) p560 q560
    cases e560
    replace p560 := eq_true p560
    replace q560 := eq_true q560
    go_wp2
    go_ret
    exact ⟨by first | exact zv | (simp only [← hji32]; exact zw), (zb HB)⟩
/-- THE ONE PURE STATEMENT of laws_FnReadOnly: yours. -/
def laws_FnReadOnly.Pure : Prop := ∀ (l0 : List Int), l0.length ≤ maxLen → l0.length * 1 ≤ 140737488351232 → (∀ x ∈ l0, (Lit.int .u8 x).wf = true) → ∃ k, laws_FnReadOnly.f k l0 = some true
theorem laws_FnReadOnly.walk (P : laws_FnReadOnly.Pure) (a0 : Option Addr) (len0 cap0 : Nat) (z0 : List Int) (w : World) (w0 : (a0 = none ∧ len0 = 0 ∧ cap0 = 0 ∧ z0 = []) ∨ ∃ x, a0 = some x ∧ len0 ≤ cap0 ∧ cap0 ≤ maxLen ∧ z0.length = cap0 ∧ (∀ i, i < z0.length → w.cell? (x.add i) = some (.int .u8 (z0.getD i 0))) ∧ ∀ n ∈ z0, (Lit.int .u8 n).wf = true) (y0 : len0 * 1 ≤ 140737488351232) :
 Calls Try.prog 13 #[.slice a0 len0 cap0] w fun e w' => e = .returned (.bool true) ∧ Below w.heap.size w w' := by
 obtain ⟨l0, rfl, hr0, hm0, hw0, hc0⟩ := ReadsInt.ofRowC w0
 obtain ⟨k, h⟩ := P l0 hm0 y0 hw0
 refine (laws_FnReadOnly.calls k _ _ l0 true w (Kd.C_of_reads (d := (0 : Int)) (h1 := fun _ => rfl) hr0) hc0 h).mono ?_
 rintro e w' ⟨rfl, hd⟩
 exact ⟨rfl, hd⟩
end Go.Proofs.Ytooamacekmjpaaa.PFnReadOnly
