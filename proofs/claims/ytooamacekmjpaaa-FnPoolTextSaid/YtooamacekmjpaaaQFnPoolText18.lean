/- The walk: each function that the law comes to as a plain Lean function, and a proof that the Go code answers so. Written by this session's program over the kit's printer. -/
import Derived.Test.YtooamacekmjpaaaZ
import Derived.Test.YtooamacekmjpaaaQFnPoolText0
import Derived.Test.YtooamacekmjpaaaQFnPoolText4
import Derived.Test.YtooamacekmjpaaaQFnPoolText5
import Derived.Test.YtooamacekmjpaaaQFnPoolText8
import Derived.Test.YtooamacekmjpaaaQFnPoolText17
namespace Go.Proofs.Ytooamacekmjpaaa.PFnPoolText
open Go.RowKit Go.Proofs.YtooamacekmjpaaaW.PrintWords Go.Proofs.YtooamacekmjpaaaW.PrintLast Go.Proofs.YtooamacekmjpaaaW.PrintMore
attribute [local go_sem] max2_int min2_int max_two min_two max_three min_three max_four min_four   -- for this text's walks alone
set_option linter.unusedVariables false
set_option linter.unusedSimpArgs false
/-! ### laws_FnPoolText: function 11 -/
mutual
def laws_FnPoolText.j0 : Nat → ByteArray → Bool → List (S55) → List (S38) → Option (Bool)
 | 0, _, _, _, _ => none
 | k + 1, x4, x22, x534000, x534001 => if x22 = true then ((spec_PoolText.f k x534000 x534001).bind fun t537 => (some (x4.toList == t537.toList))) else (laws_FnPoolText.l0 k x4 (⟨#[]⟩ : ByteArray) 0 x534000 x534001)
def laws_FnPoolText.l0 : Nat → ByteArray → ByteArray → Int → List (S55) → List (S38) → Option (Bool)
 | 0, _, _, _, _, _ => none
 | k + 1, x4, x5, x6, x534000, x534001 => if x6 < (x534001.length : Int) then (if 0 ≤ x6 then ((impl_VolText.f k ((rd_T38 x534001 x6).f0) ((rd_T38 x534001 x6).f1) x534000).bind fun t539 => (if x5.size + t539.size ≤ 9223372036854775807 then (if (x5 ++ t539).size + 1 ≤ 9223372036854775807 then (if x6 > 0 then (if 0 ≤ (wrap64 (x6 - 1)) then (if (wrap64 (x6 - 1)) < (x534001.length : Int) then (if ((Op.bytesLess (((rd_T38 x534001 (wrap64 (x6 - 1))).f0).toList) (((rd_T38 x534001 x6).f0).toList)) = true) then (laws_FnPoolText.l0 k x4 ((x5 ++ t539) ++ (⟨#[10]⟩ : ByteArray)) (wrap64 (x6 + 1)) x534000 x534001) else (some false)) else (none)) else (none)) else (laws_FnPoolText.l0 k x4 ((x5 ++ t539) ++ (⟨#[10]⟩ : ByteArray)) (wrap64 (x6 + 1)) x534000 x534001)) else (none)) else (none))) else (none)) else (if x4.toList = x5.toList then ((impl_PoolNew.f).bind fun bt542 => ((impl_PoolText.f k bt542.1 bt542.2).bind fun t548 => (some (t548.toList == ([] : List UInt8))))) else (some false))
end
def laws_FnPoolText.f (k : Nat) (l0 : List Int) : Option (Bool) := if (l0.length : Int) > 1048576 then (some true) else ((spec_DrawPoolText.f k l0).bind fun bt527 => ((impl_PoolText.f k bt527.1 bt527.2).bind fun t534 => ((spec_PoolText.f k bt527.1 bt527.2).bind fun t535 => (if t534.toList = t535.toList then ((spec_PoolOk.f k bt527.1 bt527.2).bind fun t536 => (laws_FnPoolText.j0 k t534 (!t536) bt527.1 bt527.2)) else (laws_FnPoolText.j0 k t534 true bt527.1 bt527.2)))))
theorem laws_FnPoolText.mono_l : ∀ k, (∀ y0 y1 y2 y3, LeO (laws_FnPoolText.j0 k y0 y1 y2 y3) (laws_FnPoolText.j0 (k + 1) y0 y1 y2 y3)) ∧ (∀ y0 y1 y2 y3 y4, LeO (laws_FnPoolText.l0 k y0 y1 y2 y3 y4) (laws_FnPoolText.l0 (k + 1) y0 y1 y2 y3 y4))
 | 0 => ⟨fun _ _ _ _ r h => by simp [laws_FnPoolText.j0] at h, fun _ _ _ _ _ r h => by simp [laws_FnPoolText.l0] at h⟩
 | k + 1 => by
  obtain ⟨ih0, ih1⟩ := laws_FnPoolText.mono_l k
  refine ⟨?_, ?_⟩
  · intro y0 y1 y2 y3
    unfold laws_FnPoolText.j0
    repeat' first
    | (with_reducible exact ih0 _ _ _ _)
    | (with_reducible exact ih1 _ _ _ _ _)
    | (with_reducible exact impl_PoolText.mono _ _ _)
    | (with_reducible exact impl_VolText.mono _ _ _ _)
    | (with_reducible exact spec_DrawPoolText.mono _ _)
    | (with_reducible exact spec_PoolOk.mono _ _ _)
    | (with_reducible exact spec_PoolText.mono _ _ _)
    | (with_reducible exact LeO.refl _)
    | (with_reducible exact LeO.none _)
    | (with_reducible refine LeO.ite ?_ ?_)
    | (with_reducible refine LeO.bind ?_ (fun _ => ?_))
    | exact ih0 _ _ _ _
    | exact ih1 _ _ _ _ _
    | exact impl_PoolText.mono _ _ _
    | exact impl_VolText.mono _ _ _ _
    | exact spec_DrawPoolText.mono _ _
    | exact spec_PoolOk.mono _ _ _
    | exact spec_PoolText.mono _ _ _
    | exact LeO.none _
    | refine LeO.ite ?_ ?_
    | refine LeO.bind ?_ (fun _ => ?_)
  intro y0 y1 y2 y3 y4
  unfold laws_FnPoolText.l0
  repeat' first
  | (with_reducible exact ih0 _ _ _ _)
  | (with_reducible exact ih1 _ _ _ _ _)
  | (with_reducible exact impl_PoolText.mono _ _ _)
  | (with_reducible exact impl_VolText.mono _ _ _ _)
  | (with_reducible exact spec_DrawPoolText.mono _ _)
  | (with_reducible exact spec_PoolOk.mono _ _ _)
  | (with_reducible exact spec_PoolText.mono _ _ _)
  | (with_reducible exact LeO.refl _)
  | (with_reducible exact LeO.none _)
  | (with_reducible refine LeO.ite ?_ ?_)
  | (with_reducible refine LeO.bind ?_ (fun _ => ?_))
  | exact ih0 _ _ _ _
  | exact ih1 _ _ _ _ _
  | exact impl_PoolText.mono _ _ _
  | exact impl_VolText.mono _ _ _ _
  | exact spec_DrawPoolText.mono _ _
  | exact spec_PoolOk.mono _ _ _
  | exact spec_PoolText.mono _ _ _
  | exact LeO.none _
  | refine LeO.ite ?_ ?_
  | refine LeO.bind ?_ (fun _ => ?_)
theorem laws_FnPoolText.mono : ∀ a0 k, LeO (laws_FnPoolText.f k a0) (laws_FnPoolText.f (k + 1) a0) := by
 intro a0 k
 obtain ⟨ih0, ih1⟩ := laws_FnPoolText.mono_l k
 unfold laws_FnPoolText.f
 repeat' first
  | (with_reducible exact ih0 _ _ _ _)
  | (with_reducible exact ih1 _ _ _ _ _)
  | (with_reducible exact impl_PoolText.mono _ _ _)
  | (with_reducible exact impl_VolText.mono _ _ _ _)
  | (with_reducible exact spec_DrawPoolText.mono _ _)
  | (with_reducible exact spec_PoolOk.mono _ _ _)
  | (with_reducible exact spec_PoolText.mono _ _ _)
  | (with_reducible exact LeO.refl _)
  | (with_reducible exact LeO.none _)
  | (with_reducible refine LeO.ite ?_ ?_)
  | (with_reducible refine LeO.bind ?_ (fun _ => ?_))
  | exact ih0 _ _ _ _
  | exact ih1 _ _ _ _ _
  | exact impl_PoolText.mono _ _ _
  | exact impl_VolText.mono _ _ _ _
  | exact spec_DrawPoolText.mono _ _
  | exact spec_PoolOk.mono _ _ _
  | exact spec_PoolText.mono _ _ _
  | exact LeO.none _
  | refine LeO.ite ?_ ?_
  | refine LeO.bind ?_ (fun _ => ?_)
def laws_FnPoolText.T11 : Bool × List (List Nat × List Nat) := (true, [([], []), ([], []), ([1], [1]), ([], []), ([2, 3], [2, 3]), ([4], [4]), ([], []), ([6], [6]), ([5, 7], [5, 7]), ([0, 8], [0, 8]), ([9], [9]), ([10, 8, 0, 1, 2, 3, 4, 5, 6, 7, 8, 9, 10], [0, 10])])
def laws_FnPoolText.B11 : List Nat := [0, 0, 2, 0, 14, 30, 0, 64, 254, 511, 1023, 2047]
theorem laws_FnPoolText.tab11 : rtab .any (opsOf Try.f11 11) = laws_FnPoolText.T11 := by kernel_rfl
theorem laws_FnPoolText.bits11 : waitsOk laws_FnPoolText.T11.2 laws_FnPoolText.B11 = true := by kernel_rfl
def laws_FnPoolText.T12 : Bool × List (List Nat × List Nat) := (true, [([], []), ([0], [0]), ([1], [1]), ([2], [2]), ([3, 2], [2, 3]), ([2], [2]), ([5, 2], [2, 5]), ([4, 6, 2], [2, 4, 6]), ([7, 2], [2, 7]), ([8, 2], [2, 8]), ([2], [2]), ([10, 2], [2, 10]), ([2], [2]), ([11, 12, 2], [2, 11, 12]), ([13, 2], [2, 13]), ([14, 2], [2, 14]), ([9, 15, 2], [2, 9, 15]), ([2, 16], [2, 16])])
def laws_FnPoolText.B12 : List Nat := [0, 1, 3, 7, 15, 7, 39, 127, 255, 511, 7, 1031, 7, 7175, 15367, 31751, 65535, 131071]
theorem laws_FnPoolText.tab12 : rtab .any (opsOf Try.f11 12) = laws_FnPoolText.T12 := by kernel_rfl
theorem laws_FnPoolText.bits12 : waitsOk laws_FnPoolText.T12.2 laws_FnPoolText.B12 = true := by kernel_rfl
set_option maxHeartbeats 8000000 in
set_option maxRecDepth 100000 in
theorem laws_FnPoolText.calls (k : Nat) (A0 : Option Addr) (c0 : Nat) (l0 : List Int) (r : Bool) (w : World) (hr0 : Kd.C (Kd.int .u8) w A0 l0.length l0) (hc0 : l0.length ≤ c0) (h : laws_FnPoolText.f k l0 = some r) :
 Calls Try.prog 11 #[.slice A0 l0.length c0] w fun e w' => e = .returned (.bool r) ∧ Below w.heap.size w w' := by
 have hu31 := Try.underlying31
 have hu38 := Try.underlying38
 have HR0 := am hr0
 have HC0 := am hc0
 clear hr0 hc0
 have HB := am (Below.refl w.heap.size w)
 have H : (if (l0.length : Int) > 1048576 then (some true) else ((spec_DrawPoolText.f k l0).bind fun bt527 => ((impl_PoolText.f k bt527.1 bt527.2).bind fun t534 => ((spec_PoolText.f k bt527.1 bt527.2).bind fun t535 => (if t534.toList = t535.toList then ((spec_PoolOk.f k bt527.1 bt527.2).bind fun t536 => (laws_FnPoolText.j0 k t534 (!t536) bt527.1 bt527.2)) else (laws_FnPoolText.j0 k t534 true bt527.1 bt527.2)))))) = some r := h
 clear h
 by_cases c2 : (l0.length : Int) > 1048576
 · rw [if_pos c2] at H
   have c2b0 : decide (1048576 < (l0.length : Int)) = true := decide_eq_true c2
   have c2b1 : decide (1048576 < l0.length) = true := decide_eq_true (by omega)
   clear c2
   obtain rfl := Option.some.inj H
   go_enter Try.func11, Try.ntmps11
   go_wp2
   go_ret
   exact ⟨zv, (zb HB)⟩
 rw [if_neg c2] at H
 have c2b0 : decide (1048576 < (l0.length : Int)) = false := decide_eq_false c2
 have c2b1 : decide (1048576 < l0.length) = false := decide_eq_false (by omega)
 clear c2
 replace H := obs H
 obtain ⟨⟨t527, t530⟩, A30, H⟩ := H
 replace H : ((impl_PoolText.f k t527 t530).bind fun t534 => ((spec_PoolText.f k t527 t530).bind fun t535 => (if t534.toList = t535.toList then ((spec_PoolOk.f k t527 t530).bind fun t536 => (laws_FnPoolText.j0 k t534 (!t536) t527 t530)) else (laws_FnPoolText.j0 k t534 true t527 t530)))) = some r := H
 have A3 := am A30
 clear A30
 replace H := obs H
 obtain ⟨t534, A40, H⟩ := H
 replace H : ((spec_PoolText.f k t527 t530).bind fun t535 => (if t534.toList = t535.toList then ((spec_PoolOk.f k t527 t530).bind fun t536 => (laws_FnPoolText.j0 k t534 (!t536) t527 t530)) else (laws_FnPoolText.j0 k t534 true t527 t530))) = some r := H
 have A4 := am A40
 clear A40
 have HC5 := am H
 clear H
 go_enter Try.func11, Try.ntmps11
 go_upto_region 5 with (first | ((with_reducible refine gate_callee (f := 33) rfl ?_); refine gl Try.func33 11 #[.slice A0 l0.length c0] rfl rfl rfl ?_; (with_reducible refine (spec_DrawPoolText.calls k _ _ l0 t527 t530 _ ?side1 ?side2 A3.out).mono ?_); (case side1 => repeat (first | exact HR0.out | (with_reducible refine Kd.C_alloc ?_ _) | (with_reducible refine Kd.C_drewN ?_ _) | (with_reducible refine Kd.C_drew ?_))); (case side2 => exact HC0.out); rintro e w6 ⟨v528, v531, rfl, ho0, ho1, hb⟩; refine ⟨_, rfl, ?_⟩; have HO529 := am (Kd.R_lower ho0 (below_size (zb HB))); have HO532 := am (Kd.S_lower ho1 (below_size (zb HB))); replace HB := am (below_step (zb HB) hb); (try clear hb); (try clear hb2); (try clear hk); (try clear hi); (try clear ho0); (try clear ho1)) | ((with_reducible refine gate_dst (N := 3) rfl ?_); refine bx 31 #[.slice none 0 0, .slice none 0 0] ?_; intro gb533 hg w7 hbox hb; replace HO529 := am (Kd.R_below (zr HO529) hb); replace HO532 := am (Kd.S_below (zs HO532) hb); have BK533 := am (hbox); have GW533 := am (zn hg (zb HB)); have GE533 := am (zn hg (zb HB)); replace HB := am (below_step (zb HB) hb); clear hb hbox hg; obtain ⟨Ao8, co8, eo8⟩ := Kd.R_slice HO529.out; subst eo8; have hcz9_0 := ce0 BK533; have hcz9_1 := ce1 BK533; have hfz9_0 := bfz BK533 0; have hfz9_1 := bfz BK533 1; obtain ⟨Ao10, co10, eo10⟩ := Kd.S_slice HO532.out; subst eo10) | ((with_reducible refine gate_callee (f := 25) rfl ?_); refine gl Try.func25 13 #[.agg #[.slice Ao8 t527.length co8, .slice Ao10 t530.length co10]] rfl rfl rfl ?_; (with_reducible refine (impl_PoolText.calls k _ _ t527 _ _ t530 t534 _ ?side1 ?side2 ?side3 ?side4 A4.out).mono ?_); (case side1 => refine (Kd.R_reads' (e := 55) (base := w.heap.size) (ok := fun k_ => True) (n := t527.length) (c := co8) ?_).2.2; exact (rf HO529 BK533)); (case side2 => exact (Kd.R_reads' HO529.out).2.1); (case side3 => refine (Kd.S_reads' (e := 38) (base := w.heap.size) (ok := fun k_ => True) (n := t530.length) (c := co10) ?_).2.2; exact (sf HO532 BK533)); (case side4 => exact (Kd.S_reads' HO532.out).2.1); rintro e w11 ⟨rfl, hb⟩; refine ⟨_, rfl, ?_⟩; replace HO529 := am (Kd.R_below (rf HO529 BK533) hb); replace HO532 := am (Kd.S_below (sf HO532 BK533) hb); replace BK533 := am (blk_below (g := gb533) (o := .cells #[.slice Ao8 t527.length co8, .slice Ao10 t530.length co10] 31 (0, 0)) (zp BK533) hb); replace HB := am (below_step (zb HB) hb); (try clear hb); (try clear hb2); (try clear hk); (try clear hi)))
 (try simp only [Act.put, List.setIfInBounds_toArray, List.set_cons_zero, List.set_cons_succ])
 go_cut [22] (fun v22 wc => ∃ (kq : Nat) (x22_4 : Bool), v22 = .bool x22_4 ∧ Aside0 (laws_FnPoolText.j0 kq t534 x22_4 t527 t530 = some r) ∧ Aside0 (kq ≤ k) ∧ Aside0 (Kd.R k55 55 wc w.heap.size (fun _ => True) (.slice Ao8 t527.length co8) t527) ∧ Aside0 (Kd.S k38 38 wc w.heap.size (fun _ => True) (.slice Ao10 t530.length co10) t530) ∧ Aside0 (wc.heap[gb533]? = some (.cells #[(.slice Ao8 t527.length co8), (.slice Ao10 t530.length co10)] 31 (0, 0))) ∧ Aside0 (Below w.heap.size w wc))
 case first =>
  have H := HC5.out
  clear HC5
  replace H := obs H
  obtain ⟨t535, A120, H⟩ := H
  replace H : (if t534.toList = t535.toList then ((spec_PoolOk.f k t527 t530).bind fun t536 => (laws_FnPoolText.j0 k t534 (!t536) t527 t530)) else (laws_FnPoolText.j0 k t534 true t527 t530)) = some r := H
  have A12 := am A120
  clear A120
  by_cases c13 : t534.toList = t535.toList
  rotate_left
  · rw [if_neg c13] at H
    have c13b0 : (t534.toList == t535.toList) = false := beq_eq_false_iff_ne.mpr c13
    have c13b1 : (t534.toList != t535.toList) = true := bne_iff_ne.mpr c13
    (first | rw [c13b0] | (simp only [i64_w, i32_w]; rw [c13b0]) | skip)
    have H' := am H
    clear H
    have hcz19_0 := ce0 BK533
    have hcz19_1 := ce1 BK533
    have hfz19_0 := bfz BK533 0
    have hfz19_1 := bfz BK533 1
    go_wp2_with (first | ((with_reducible refine gate_callee (f := 24) rfl ?_); refine gl Try.func24 16 #[.agg #[.slice Ao8 t527.length co8, .slice Ao10 t530.length co10]] rfl rfl rfl ?_; (with_reducible refine (spec_PoolText.calls k _ _ t527 _ _ t530 t535 _ ?side1 ?side2 ?side3 ?side4 A12.out).mono ?_); (case side1 => exact zc (Kd.R_reads' HO529.out).2.2); (case side2 => exact (Kd.R_reads' HO529.out).2.1); (case side3 => exact zc (Kd.S_reads' HO532.out).2.2); (case side4 => exact (Kd.S_reads' HO532.out).2.1); rintro e w20 ⟨rfl, hb⟩; refine ⟨_, rfl, ?_⟩; replace HO529 := am (Kd.R_below (zr HO529) hb); replace HO532 := am (Kd.S_below (zs HO532) hb); replace BK533 := am (blk_below (zk BK533) hb); replace HB := am (below_step (zb HB) hb); (try clear hb); (try clear hb2); (try clear hk); (try clear hi)))
    go_meet
    case rel => exact ⟨_, (true), ze, H', ⟨by first | omega | exact Nat.le_refl _⟩, ⟨zr HO529⟩, ⟨zs HO532⟩, ⟨zk BK533⟩, ⟨zb HB⟩⟩
  rw [if_pos c13] at H
  have c13b0 : (t534.toList == t535.toList) = true := beq_iff_eq.mpr c13
  have c13b1 : (t534.toList != t535.toList) = false := bne_eq_false_iff_eq.mpr c13
  clear c13
  (first | rw [c13b0] | (simp only [i64_w, i32_w]; rw [c13b0]) | skip)
  replace H := obs H
  obtain ⟨t536, A140, H⟩ := H
  replace H : (laws_FnPoolText.j0 k t534 (!t536) t527 t530) = some r := H
  have A14 := am A140
  clear A140
  have H' := am H
  clear H
  have hcz15_0 := ce0 BK533
  have hcz15_1 := ce1 BK533
  have hfz15_0 := bfz BK533 0
  have hfz15_1 := bfz BK533 1
  go_wp2_with (first | ((with_reducible refine gate_callee (f := 24) rfl ?_); refine gl Try.func24 16 #[.agg #[.slice Ao8 t527.length co8, .slice Ao10 t530.length co10]] rfl rfl rfl ?_; (with_reducible refine (spec_PoolText.calls k _ _ t527 _ _ t530 t535 _ ?side1 ?side2 ?side3 ?side4 A12.out).mono ?_); (case side1 => exact zc (Kd.R_reads' HO529.out).2.2); (case side2 => exact (Kd.R_reads' HO529.out).2.1); (case side3 => exact zc (Kd.S_reads' HO532.out).2.2); (case side4 => exact (Kd.S_reads' HO532.out).2.1); rintro e w16 ⟨rfl, hb⟩; refine ⟨_, rfl, ?_⟩; replace HO529 := am (Kd.R_below (zr HO529) hb); replace HO532 := am (Kd.S_below (zs HO532) hb); replace BK533 := am (blk_below (zk BK533) hb); replace HB := am (below_step (zb HB) hb); (try clear hb); (try clear hb2); (try clear hk); (try clear hi); have hcz17_0 := ce0 BK533; have hcz17_1 := ce1 BK533; have hfz17_0 := bfz BK533 0; have hfz17_1 := bfz BK533 1) | (go_at_call 15; (with_reducible refine (spec_PoolOk.calls k _ _ t527 _ _ t530 t536 _ ?side1 ?side2 ?side3 ?side4 A14.out).mono ?_); (case side1 => exact zc (Kd.R_reads' HO529.out).2.2); (case side2 => exact (Kd.R_reads' HO529.out).2.1); (case side3 => exact zc (Kd.S_reads' HO532.out).2.2); (case side4 => exact (Kd.S_reads' HO532.out).2.1); rintro e w18 ⟨rfl, hb⟩; replace HO529 := am (Kd.R_below (zr HO529) hb); replace HO532 := am (Kd.S_below (zs HO532) hb); replace BK533 := am (blk_below (zk BK533) hb); replace HB := am (below_step (zb HB) hb); (try clear hb); (try clear hb2); (try clear hk); (try clear hi)))
  go_meet
  case rel => exact ⟨_, (!t536), ze, H', ⟨by first | omega | exact Nat.le_refl _⟩, ⟨zr HO529⟩, ⟨zs HO532⟩, ⟨zk BK533⟩, ⟨zb HB⟩⟩
 clear HC5
 try clear c1
 try clear c2
 try clear c2b0
 try clear c2b1
 try clear p2
 try clear c3
 try clear c11
 try clear c13
 try clear c13b0
 try clear c13b1
 try clear hcz15_0
 try clear hcz15_1
 try clear hcz17_0
 try clear hcz17_1
 try clear hcz19_0
 try clear hcz19_1
 try clear hcz9_0
 try clear hcz9_1
 try clear hfz15_0
 try clear hfz15_1
 try clear hfz17_0
 try clear hfz17_1
 try clear hfz19_0
 try clear hfz19_1
 try clear hfz9_0
 try clear hfz9_1
 obtain ⟨kq, x22_4, rfl, HA, HJ4, HO_534000, HO_534001, BK533, HB⟩ := hcut
 cases kq with
 | zero => exact absurd HA.out (by simp [laws_FnPoolText.j0])
 | succ kj4 =>
  have H := HA.out
  clear HA
  simp only [laws_FnPoolText.j0] at H
  by_cases c21 : x22_4 = true
  · subst c21
    have H1 : ((spec_PoolText.f kj4 t527 t530).bind fun t537 => (some (t534.toList == t537.toList))) = some r := by rw [if_pos rfl] at H; exact H
    clear H
    have H := H1
    clear H1
    replace H := obs H
    obtain ⟨t537, A220, H⟩ := H
    replace H : (some (t534.toList == t537.toList)) = some r := H
    have A22 := am A220
    clear A220
    obtain rfl := Option.some.inj H
    have hcz23_0 := ce0 BK533
    have hcz23_1 := ce1 BK533
    have hfz23_0 := bfz BK533 0
    have hfz23_1 := bfz BK533 1
    go_wp2_with (first | ((with_reducible refine gate_callee (f := 24) rfl ?_); refine gl Try.func24 25 #[.agg #[.slice Ao8 t527.length co8, .slice Ao10 t530.length co10]] rfl rfl rfl ?_; (with_reducible refine (spec_PoolText.calls kj4 _ _ t527 _ _ t530 t537 _ ?side1 ?side2 ?side3 ?side4 A22.out).mono ?_); (case side1 => exact zc (Kd.R_reads' HO_534000.out).2.2); (case side2 => exact (Kd.R_reads' HO_534000.out).2.1); (case side3 => exact zc (Kd.S_reads' HO_534001.out).2.2); (case side4 => exact (Kd.S_reads' HO_534001.out).2.1); rintro e w24 ⟨rfl, hb⟩; refine ⟨_, rfl, ?_⟩; replace HO_534000 := am (Kd.R_below (zr HO_534000) hb); replace HO_534001 := am (Kd.S_below (zs HO_534001) hb); replace BK533 := am (blk_below (zk BK533) hb); replace HB := am (below_step (zb HB) hb); (try clear hb); (try clear hb2); (try clear hk); (try clear hi)))
    go_ret
    exact ⟨zv, (zb HB)⟩
  replace c21 := Bool.eq_false_iff.mpr c21
  subst c21
  have H1 : (laws_FnPoolText.l0 kj4 t534 (⟨#[]⟩ : ByteArray) 0 t527 t530) = some r := by rw [if_neg (show ¬ (false = true) by decide)] at H; exact H
  clear H
  have H := H1
  clear H1
  have H' := am H
  clear H
  go_wp2
  go_loopg [5, 6] kj4 (fun kq v5 v6 w' => ∃ (x5_2 : ByteArray) (x6_2 : Int), v5 = .string x5_2 ∧ v6 = .int .i64 x6_2 ∧ Aside0 (laws_FnPoolText.l0 kq t534 x5_2 x6_2 t527 t530 = some r) ∧ Aside0 (kq ≤ kj4) ∧ Aside0 (Kd.R k55 55 w' w.heap.size (fun _ => True) (.slice Ao8 t527.length co8) t527) ∧ Aside0 (Kd.S k38 38 w' w.heap.size (fun _ => True) (.slice Ao10 t530.length co10) t530) ∧ Aside0 (w'.heap[gb533]? = some (.cells #[(.slice Ao8 t527.length co8), (.slice Ao10 t530.length co10)] 31 (0, 0))) ∧ Aside0 (Below w.heap.size w w'))
  case atStart => exact ⟨((⟨#[]⟩ : ByteArray)), (0), ze, ze, H', ⟨Nat.le_refl _⟩, ⟨zr HO_534000⟩, ⟨zs HO_534001⟩, ⟨zk BK533⟩, ⟨zb HB⟩⟩
  case round =>
   clear H'
   try clear c1
   try clear c2
   try clear c2b0
   try clear c2b1
   try clear p2
   try clear c3
   try clear c11
   try clear c13
   try clear c13b0
   try clear c13b1
   try clear c21
   try clear c24
   try clear hcz15_0
   try clear hcz15_1
   try clear hcz17_0
   try clear hcz17_1
   try clear hcz19_0
   try clear hcz19_1
   try clear hcz23_0
   try clear hcz23_1
   try clear hcz9_0
   try clear hcz9_1
   try clear hfz15_0
   try clear hfz15_1
   try clear hfz17_0
   try clear hfz17_1
   try clear hfz19_0
   try clear hfz19_1
   try clear hfz23_0
   try clear hfz23_1
   try clear hfz9_0
   try clear hfz9_1
   try clear p2
   obtain ⟨x5_2, x6_2, rfl, rfl, HA, HK2, HO_534000, HO_534001, BK533, HB⟩ := hrel
   cases gk with
   | zero => exact absurd HA.out (by simp [laws_FnPoolText.l0])
   | succ k2 =>
    have H := HA.out
    clear HA
    simp only [laws_FnPoolText.l0] at H
    by_cases c25 : x6_2 < (t530.length : Int)
    rotate_left
    · rw [if_neg c25] at H
      have c25b0 : decide (x6_2 < (t530.length : Int)) = false := decide_eq_false c25
      clear c25
      by_cases c47 : t534.toList = x5_2.toList
      rotate_left
      · rw [if_neg c47] at H
        have c47b0 : (t534.toList == x5_2.toList) = false := beq_eq_false_iff_ne.mpr c47
        have c47b1 : (t534.toList != x5_2.toList) = true := bne_iff_ne.mpr c47
        obtain rfl := Option.some.inj H
        have hcz55_0 := ce0 BK533
        have hcz55_1 := ce1 BK533
        have hfz55_0 := bfz BK533 0
        have hfz55_1 := bfz BK533 1
        go_wp2
        go_ret
        exact ⟨zv, (zb HB)⟩
      rw [if_pos c47] at H
      have c47b0 : (t534.toList == x5_2.toList) = true := beq_iff_eq.mpr c47
      have c47b1 : (t534.toList != x5_2.toList) = false := bne_eq_false_iff_eq.mpr c47
      clear c47
      replace H := obs H
      obtain ⟨⟨t542, t545⟩, A480, H⟩ := H
      replace H : ((impl_PoolText.f k2 t542 t545).bind fun t548 => (some (t548.toList == ([] : List UInt8)))) = some r := H
      have A48 := am A480
      clear A480
      replace H := obs H
      obtain ⟨t548, A490, H⟩ := H
      replace H : (some (t548.toList == ([] : List UInt8))) = some r := H
      have A49 := am A490
      clear A490
      obtain rfl := Option.some.inj H
      have hcz50_0 := ce0 BK533
      have hcz50_1 := ce1 BK533
      have hfz50_0 := bfz BK533 0
      have hfz50_1 := bfz BK533 1
      go_wp2_with (first | (go_at_call 34; (with_reducible refine (impl_PoolNew.calls  t542 t545 _ A48.out).mono ?_); rintro e w51 ⟨v543, v546, rfl, ho0, ho1, hb⟩; have HO544 := am (Kd.R_lower (Kd.R_new' ho0 (Kd.R_lt (zr HO_534000))) (below_size (zb HB))); replace HO_534000 := am (Kd.R_elder' (zr HO_534000) (Kd.R_base ho0) hb); have HO547 := am (Kd.S_lower (Kd.S_new' ho1 (Kd.S_lt (zs HO_534001))) (below_size (zb HB))); replace HO_534001 := am (Kd.S_elder' (zs HO_534001) (Kd.S_base ho1) hb); replace BK533 := am (blk_below (zk BK533) hb); replace HB := am (below_step (zb HB) hb); (try clear hb); (try clear hb2); (try clear hk); (try clear hi); (try clear ho0); (try clear ho1); obtain ⟨Ao52, co52, eo52⟩ := Kd.R_slice HO544.out; subst eo52; obtain ⟨Ao53, co53, eo53⟩ := Kd.S_slice HO547.out; subst eo53) | (go_at_call 25; (with_reducible refine (impl_PoolText.calls k2 _ _ t542 _ _ t545 t548 _ ?side1 ?side2 ?side3 ?side4 A49.out).mono ?_); (case side1 => exact zc (Kd.R_reads' HO544.out).2.2); (case side2 => exact (Kd.R_reads' HO544.out).2.1); (case side3 => exact zc (Kd.S_reads' HO547.out).2.2); (case side4 => exact (Kd.S_reads' HO547.out).2.1); rintro e w54 ⟨rfl, hb⟩; replace HO_534000 := am (Kd.R_below (zr HO_534000) hb); replace HO_534001 := am (Kd.S_below (zs HO_534001) hb); replace HO544 := am (Kd.R_below (zr HO544) hb); replace HO547 := am (Kd.S_below (zs HO547) hb); replace BK533 := am (blk_below (zk BK533) hb); replace HB := am (below_step (zb HB) hb); (try clear hb); (try clear hb2); (try clear hk); (try clear hi)))
      go_ret
      exact ⟨zv, (zb HB)⟩
    rw [if_pos c25] at H
    have c25b0 : decide (x6_2 < (t530.length : Int)) = true := decide_eq_true c25
    clear c25
    by_cases c26 : 0 ≤ x6_2
    rotate_left
    · rw [if_neg c26] at H
      exact absurd H (by simp)
    rw [if_pos c26] at H
    have c26b0 : decide (0 ≤ x6_2) = true := decide_eq_true c26
    clear c26
    replace H := obs H
    obtain ⟨t539, A270, H⟩ := H
    replace H : (if x5_2.size + t539.size ≤ 9223372036854775807 then (if (x5_2 ++ t539).size + 1 ≤ 9223372036854775807 then (if x6_2 > 0 then (if 0 ≤ (wrap64 (x6_2 - 1)) then (if (wrap64 (x6_2 - 1)) < (t530.length : Int) then (if ((Op.bytesLess (((rd_T38 t530 (wrap64 (x6_2 - 1))).f0).toList) (((rd_T38 t530 x6_2).f0).toList)) = true) then (laws_FnPoolText.l0 k2 t534 ((x5_2 ++ t539) ++ (⟨#[10]⟩ : ByteArray)) (wrap64 (x6_2 + 1)) t527 t530) else (some false)) else (none)) else (none)) else (laws_FnPoolText.l0 k2 t534 ((x5_2 ++ t539) ++ (⟨#[10]⟩ : ByteArray)) (wrap64 (x6_2 + 1)) t527 t530)) else (none)) else (none)) = some r := H
    have A27 := am A270
    clear A270
    by_cases c28 : x5_2.size + t539.size ≤ 9223372036854775807
    rotate_left
    · rw [if_neg c28] at H
      exact absurd H (by simp)
    rw [if_pos c28] at H
    have c28b0 := eq_true c28
    have c28b1 : decide (x5_2.size + t539.size ≤ 9223372036854775807) = true := decide_eq_true c28
    try have c28b2 : (9223372036854775807 < x5_2.size + t539.size) = False := eq_false (Nat.not_lt.2 c28)
    by_cases c29 : (x5_2 ++ t539).size + 1 ≤ 9223372036854775807
    rotate_left
    · rw [if_neg c29] at H
      exact absurd H (by simp)
    rw [if_pos c29] at H
    have c29b0 := eq_true c29
    have c29b1 : decide ((x5_2 ++ t539).size + 1 ≤ 9223372036854775807) = true := decide_eq_true c29
    try have c29b2 : (9223372036854775807 < (x5_2 ++ t539).size + 1) = False := eq_false (Nat.not_lt.2 c29)
    (try have c29b3 : (9223372036854775807 < x5_2.size + t539.size + 1) = False := eq_false (by have q_ := c29; simp only [ByteArray.size_append] at q_; omega))
    by_cases c30 : x6_2 > 0
    rotate_left
    · rw [if_neg c30] at H
      have c30b0 : decide (0 < x6_2) = false := decide_eq_false c30
      clear c30
      have H' := am H
      clear H
      have hcz43_0 := ce0 BK533
      have hcz43_1 := ce1 BK533
      have hfz43_0 := bfz BK533 0
      have hfz43_1 := bfz BK533 1
      try go_wp2
      replace HO_534000 := am (Kd.R_drew HO_534000.out)
      replace HO_534001 := am (Kd.S_drew HO_534001.out)
      replace BK533 := am (blk_drew BK533.out)
      replace HB := am (below_drew1 HB.out)
      have p538 : 0 ≤ (x6_2 : Int) := of_decide_eq_true zl
      have q538 : x6_2 < (t530.length : Int) := of_decide_eq_true zl
      obtain ⟨ad538, A538_1, c538_1, e538, hx538_0, hx538_1, hl538_1, hi538_1⟩ := at_T38 (Kd.S_reads' HO_534001.out).2.2 x6_2 p538 q538
      cases e538
      obtain ⟨ce538, hce538, hMe538, hcc538⟩ := Kd.S_get HO_534001.out z38 x6_2 p538 (by first | exact q538 | exact of_decide_eq_true zl | (have e_ := (Kd.S_reads' HO_534001.out).1; omega))
      obtain ⟨ve538_1, rfl, ge538_1⟩ := k38_openM hMe538
      have hv538_1 := hcc538 1 _ rfl
      rw [add_field _ _ 1 (by omega)] at hv538_1
      replace hv538_1 := Option.some.inj (hv538_1.symm.trans hx538_1)
      rw [hv538_1] at ge538_1
      have HL538_1 := am (show Kd.R (Kd.int .i64) 3 _ _ _ _ ((rd_T38 t530 x6_2).f1) from ge538_1)
      clear hv538_1 ge538_1 hcc538 hce538
      have HR538_1 := am hi538_1
      have HC538_1 := am hl538_1
      clear hi538_1 hl538_1
      replace p538 := eq_true p538
      replace q538 := eq_true q538
      refine start_ (n := 12) (S := fun w' => w'.cell? ⟨gb533, 0, none⟩ = some (.slice Ao8 t527.length co8) ∧ w'.cell? ⟨gb533, 1, none⟩ = some (.slice (some ad538) t530.length co10) ∧ w'.cell? (ad538.add ((x6_2).toNat * 2)) = some (.string ((rd_T38 t530 x6_2).f0)) ∧ w'.cell? ⟨(ad538.add ((x6_2).toNat * 2)).block, (ad538.add ((x6_2).toNat * 2)).off + 1, none⟩ = some (.slice A538_1 ((rd_T38 t530 x6_2).f1).length c538_1)) (ds := []) (bs 12 0) (by kernel_rfl) rfl rfl ⟨ce0 BK533, ce1 BK533, hx538_0, hx538_1⟩ (fun hHeld => ?_); refine with_tabW laws_FnPoolText.tab11 laws_FnPoolText.bits11 (fun HT_ HW_ => ?_)
      generalize wr.drew = w44 at HO_534000 HO_534001 BK533 HB HL538_1 HR538_1 hx538_0 hx538_1 hHeld ⊢
      refine pu 0 34 12 1 rfl rfl ?_
      refine pu 1 35 12 3 rfl rfl ?_
      refine pu 3 37 12 11 rfl rfl ?_
      refine pu 6 40 12 75 rfl rfl ?_
      refine ta4 2 36 12 79 rfl rfl hHeld ?_
      refine pu 4 38 12 95 rfl rfl ?_
      refine ta4 5 39 12 127 rfl rfl hHeld ?_
      refine ta4 7 41 12 255 rfl rfl hHeld ?_
      refine oz 8 12 511 rfl rfl (fun K hK => ?_)
      refine gs Try.func30 #[.agg #[.string ((rd_T38 t530 x6_2).f0), .slice A538_1 ((rd_T38 t530 x6_2).f1).length c538_1], .slice Ao8 t527.length co8] rfl rfl ?_
      with_reducible refine (impl_VolText.calls k2 ((rd_T38 t530 x6_2).f0) _ _ ((rd_T38 t530 x6_2).f1) _ _ t527 t539 _ ?side1 ?side2 ?side3 ?side4 A27.out).mono ?_
      (case side1 => exact zc (zc HR538_1.out))
      (case side2 => exact HC538_1.out)
      (case side3 => exact zc (Kd.R_reads' HO_534000.out).2.2)
      (case side4 => exact (Kd.R_reads' HO_534000.out).2.1)
      rintro e w45 ⟨rfl, hb⟩
      have HS2_ := (hb.cell (World.block_lt_of_cell? _ _ (hHeld.2.2.1))).trans (hHeld.2.2.1)
      have HS3_ := (hb.cell (World.block_lt_of_cell? _ _ (hHeld.2.2.2))).trans (hHeld.2.2.2)
      refine ⟨_, rfl, ?_⟩
      replace HO_534000 := am (Kd.R_below (zr HO_534000) hb)
      replace HO_534001 := am (Kd.S_below (zs HO_534001) hb)
      replace HL538_1 := am (Kd.R_below (zr HL538_1) hb)
      replace BK533 := am (blk_below (zk BK533) hb)
      replace HR538_1 := am (Kd.C_below (zc HR538_1.out) hb)
      replace HB := am (below_step (zb HB) hb)
      (try clear hb)
      (try clear hb2)
      (try clear hk)
      (try clear hi)
      refine hK.out _ _ ⟨ce0 BK533, ce1 BK533, HS2_, HS3_⟩ (fun hHeld => ?_)
      clear hK K
      refine norm_ (a' := ?_) ?_ ?_
      rotate_left
      · show Act.put _ (some 42) _ = _
        simp only [Act.put, List.setIfInBounds_toArray, List.set_cons_zero, List.set_cons_succ, i64_w, i32_w]
        rfl
      refine pu 9 43 12 1023 rfl rfl ?_
      refine pu 10 44 12 2047 rfl rfl ?_
      refine pu 11 5 12 4095 rfl rfl ?_
      refine done_ (done_of HT_.out (by kernel_rfl)) ?_
      try go_wp2
      replace HO_534000 := am (Kd.R_drew HO_534000.out)
      replace HO_534001 := am (Kd.S_drew HO_534001.out)
      replace HL538_1 := am (Kd.R_drew HL538_1.out)
      replace BK533 := am (blk_drew BK533.out)
      replace HR538_1 := am (Kd.C_drew HR538_1.out)
      replace HB := am (below_drew1 HB.out)
      refine start_ (n := 18) (S := fun w' => True) (ds := []) (bs 18 0) (by kernel_rfl) rfl rfl trivial (fun hHeld => ?_); refine with_tabW laws_FnPoolText.tab12 laws_FnPoolText.bits12 (fun HT_ HW_ => ?_)
      generalize w45.drew = w46 at HO_534000 HO_534001 HL538_1 BK533 HR538_1 HB hHeld ⊢
      refine pu 0 45 18 1 rfl rfl ?_
      refine pu 1 46 18 3 rfl rfl ?_
      refine pu 2 47 18 7 rfl rfl ?_
      refine po 3 48 18 15 rfl rfl ?_
      refine po 4 49 18 31 rfl rfl ?_
      refine po 5 50 18 63 rfl rfl ?_
      refine po 6 51 18 127 rfl rfl ?_
      refine po 7 52 18 255 rfl rfl ?_
      refine po 8 53 18 511 rfl rfl ?_
      refine po 9 54 18 1023 rfl rfl ?_
      refine po 10 55 18 2047 rfl rfl ?_
      refine po 11 56 18 4095 rfl rfl ?_
      refine po 12 57 18 8191 rfl rfl ?_
      refine po 13 58 18 16383 rfl rfl ?_
      refine po 14 59 18 32767 rfl rfl ?_
      refine po 15 60 18 65535 rfl rfl ?_
      refine po 16 61 18 131071 rfl rfl ?_
      refine pu 17 62 18 262143 rfl rfl ?_
      refine done_ (done_of HT_.out (by kernel_rfl)) ?_
      try go_wp2
      go_roundg k2
      case measure => have := HJ4.out; have := HK2.out; omega
      case rel => exact ⟨((x5_2 ++ t539) ++ (⟨#[10]⟩ : ByteArray)), (wrap64 (x6_2 + 1)), ze, ze, H', ⟨by have := HJ4.out; have := HK2.out; omega⟩, ⟨zr HO_534000⟩, ⟨zs HO_534001⟩, ⟨zk BK533⟩, ⟨zb HB⟩⟩
    rw [if_pos c30] at H
    have c30b0 : decide (0 < x6_2) = true := decide_eq_true c30
    clear c30
    obtain ⟨ji31, hji31⟩ : ∃ j_ : Int, (wrap64 (x6_2 - 1)) = j_ := ⟨_, rfl⟩
    replace H : (if 0 ≤ (ji31) then (if (ji31) < (t530.length : Int) then (if ((Op.bytesLess (((rd_T38 t530 (ji31)).f0).toList) (((rd_T38 t530 x6_2).f0).toList)) = true) then (laws_FnPoolText.l0 k2 t534 ((x5_2 ++ t539) ++ (⟨#[10]⟩ : ByteArray)) (wrap64 (x6_2 + 1)) t527 t530) else (some false)) else (none)) else (none)) = some r := by first | (rw [hji31] at H; exact H) | (simp only [hji31] at H ⊢; exact H)
    (try rw [hji31] at A27)
    have hji31w : (IntKind.i64.wrap (x6_2 - 1)) = ji31 := (i64_w _).trans hji31
    by_cases c32 : 0 ≤ (ji31)
    rotate_left
    · rw [if_neg c32] at H
      exact absurd H (by simp)
    rw [if_pos c32] at H
    have c32b0 : decide (0 ≤ (ji31)) = true := decide_eq_true c32
    clear c32
    by_cases c33 : (ji31) < (t530.length : Int)
    rotate_left
    · rw [if_neg c33] at H
      exact absurd H (by simp)
    rw [if_pos c33] at H
    have c33b0 : decide ((ji31) < (t530.length : Int)) = true := decide_eq_true c33
    clear c33
    by_cases c34 : ((Op.bytesLess (((rd_T38 t530 (ji31)).f0).toList) (((rd_T38 t530 x6_2).f0).toList)) = true)
    · rw [if_pos c34] at H
      have c34b0 : (Op.bytesLess (((rd_T38 t530 (ji31)).f0).toList) (((rd_T38 t530 x6_2).f0).toList)) = true := c34
      clear c34
      have H' := am H
      clear H
      have hcz35_0 := ce0 BK533
      have hcz35_1 := ce1 BK533
      have hfz35_0 := bfz BK533 0
      have hfz35_1 := bfz BK533 1
      try go_wp2
      replace HO_534000 := am (Kd.R_drew HO_534000.out)
      replace HO_534001 := am (Kd.S_drew HO_534001.out)
      replace BK533 := am (blk_drew BK533.out)
      replace HB := am (below_drew1 HB.out)
      have p538 : 0 ≤ (x6_2 : Int) := of_decide_eq_true zl
      have q538 : x6_2 < (t530.length : Int) := of_decide_eq_true zl
      obtain ⟨ad538, A538_1, c538_1, e538, hx538_0, hx538_1, hl538_1, hi538_1⟩ := at_T38 (Kd.S_reads' HO_534001.out).2.2 x6_2 p538 q538
      cases e538
      obtain ⟨ce538, hce538, hMe538, hcc538⟩ := Kd.S_get HO_534001.out z38 x6_2 p538 (by first | exact q538 | exact of_decide_eq_true zl | (have e_ := (Kd.S_reads' HO_534001.out).1; omega))
      obtain ⟨ve538_1, rfl, ge538_1⟩ := k38_openM hMe538
      have hv538_1 := hcc538 1 _ rfl
      rw [add_field _ _ 1 (by omega)] at hv538_1
      replace hv538_1 := Option.some.inj (hv538_1.symm.trans hx538_1)
      rw [hv538_1] at ge538_1
      have HL538_1 := am (show Kd.R (Kd.int .i64) 3 _ _ _ _ ((rd_T38 t530 x6_2).f1) from ge538_1)
      clear hv538_1 ge538_1 hcc538 hce538
      have HR538_1 := am hi538_1
      have HC538_1 := am hl538_1
      clear hi538_1 hl538_1
      replace p538 := eq_true p538
      replace q538 := eq_true q538
      refine start_ (n := 12) (S := fun w' => w'.cell? ⟨gb533, 0, none⟩ = some (.slice Ao8 t527.length co8) ∧ w'.cell? ⟨gb533, 1, none⟩ = some (.slice (some ad538) t530.length co10) ∧ w'.cell? (ad538.add ((x6_2).toNat * 2)) = some (.string ((rd_T38 t530 x6_2).f0)) ∧ w'.cell? ⟨(ad538.add ((x6_2).toNat * 2)).block, (ad538.add ((x6_2).toNat * 2)).off + 1, none⟩ = some (.slice A538_1 ((rd_T38 t530 x6_2).f1).length c538_1)) (ds := []) (bs 12 0) (by kernel_rfl) rfl rfl ⟨ce0 BK533, ce1 BK533, hx538_0, hx538_1⟩ (fun hHeld => ?_); refine with_tabW laws_FnPoolText.tab11 laws_FnPoolText.bits11 (fun HT_ HW_ => ?_)
      generalize wr.drew = w36 at HO_534000 HO_534001 BK533 HB HL538_1 HR538_1 hx538_0 hx538_1 hHeld ⊢
      refine pu 0 34 12 1 rfl rfl ?_
      refine pu 1 35 12 3 rfl rfl ?_
      refine pu 3 37 12 11 rfl rfl ?_
      refine pu 6 40 12 75 rfl rfl ?_
      refine ta4 2 36 12 79 rfl rfl hHeld ?_
      refine pu 4 38 12 95 rfl rfl ?_
      refine ta4 5 39 12 127 rfl rfl hHeld ?_
      refine ta4 7 41 12 255 rfl rfl hHeld ?_
      refine oz 8 12 511 rfl rfl (fun K hK => ?_)
      refine gs Try.func30 #[.agg #[.string ((rd_T38 t530 x6_2).f0), .slice A538_1 ((rd_T38 t530 x6_2).f1).length c538_1], .slice Ao8 t527.length co8] rfl rfl ?_
      with_reducible refine (impl_VolText.calls k2 ((rd_T38 t530 x6_2).f0) _ _ ((rd_T38 t530 x6_2).f1) _ _ t527 t539 _ ?side1 ?side2 ?side3 ?side4 A27.out).mono ?_
      (case side1 => exact zc (zc HR538_1.out))
      (case side2 => exact HC538_1.out)
      (case side3 => exact zc (Kd.R_reads' HO_534000.out).2.2)
      (case side4 => exact (Kd.R_reads' HO_534000.out).2.1)
      rintro e w37 ⟨rfl, hb⟩
      have HS2_ := (hb.cell (World.block_lt_of_cell? _ _ (hHeld.2.2.1))).trans (hHeld.2.2.1)
      have HS3_ := (hb.cell (World.block_lt_of_cell? _ _ (hHeld.2.2.2))).trans (hHeld.2.2.2)
      refine ⟨_, rfl, ?_⟩
      replace HO_534000 := am (Kd.R_below (zr HO_534000) hb)
      replace HO_534001 := am (Kd.S_below (zs HO_534001) hb)
      replace HL538_1 := am (Kd.R_below (zr HL538_1) hb)
      replace BK533 := am (blk_below (zk BK533) hb)
      replace HR538_1 := am (Kd.C_below (zc HR538_1.out) hb)
      replace HB := am (below_step (zb HB) hb)
      (try clear hb)
      (try clear hb2)
      (try clear hk)
      (try clear hi)
      refine hK.out _ _ ⟨ce0 BK533, ce1 BK533, HS2_, HS3_⟩ (fun hHeld => ?_)
      clear hK K
      refine norm_ (a' := ?_) ?_ ?_
      rotate_left
      · show Act.put _ (some 42) _ = _
        simp only [Act.put, List.setIfInBounds_toArray, List.set_cons_zero, List.set_cons_succ, i64_w, i32_w]
        rfl
      refine pu 9 43 12 1023 rfl rfl ?_
      refine pu 10 44 12 2047 rfl rfl ?_
      refine pu 11 5 12 4095 rfl rfl ?_
      refine done_ (done_of HT_.out (by kernel_rfl)) ?_
      try go_wp2
      replace HO_534000 := am (Kd.R_drew HO_534000.out)
      replace HO_534001 := am (Kd.S_drew HO_534001.out)
      replace HL538_1 := am (Kd.R_drew HL538_1.out)
      replace BK533 := am (blk_drew BK533.out)
      replace HR538_1 := am (Kd.C_drew HR538_1.out)
      replace HB := am (below_drew1 HB.out)
      have p540 : 0 ≤ ((ji31) : Int) := of_decide_eq_true zl
      have q540 : (ji31) < (t530.length : Int) := of_decide_eq_true zl
      obtain ⟨ad540, A540_1, c540_1, e540, hx540_0, hx540_1, hl540_1, hi540_1⟩ := at_T38 (Kd.S_reads' HO_534001.out).2.2 (ji31) p540 q540
      obtain rfl : ad538 = ad540 := (by injection e540)
      obtain ⟨ce540, hce540, hMe540, hcc540⟩ := Kd.S_get HO_534001.out z38 (ji31) p540 (by first | exact q540 | exact of_decide_eq_true zl | (have e_ := (Kd.S_reads' HO_534001.out).1; omega))
      obtain ⟨ve540_1, rfl, ge540_1⟩ := k38_openM hMe540
      have hv540_1 := hcc540 1 _ rfl
      rw [add_field _ _ 1 (by omega)] at hv540_1
      replace hv540_1 := Option.some.inj (hv540_1.symm.trans hx540_1)
      rw [hv540_1] at ge540_1
      have HL540_1 := am (show Kd.R (Kd.int .i64) 3 _ _ _ _ ((rd_T38 t530 (ji31)).f1) from ge540_1)
      clear hv540_1 ge540_1 hcc540 hce540
      have HR540_1 := am hi540_1
      have HC540_1 := am hl540_1
      clear hi540_1 hl540_1
      replace p540 := eq_true p540
      replace q540 := eq_true q540
      have p541 : 0 ≤ (x6_2 : Int) := of_decide_eq_true zl
      have q541 : x6_2 < (t530.length : Int) := of_decide_eq_true zl
      obtain ⟨ad541, A541_1, c541_1, e541, hx541_0, hx541_1, hl541_1, hi541_1⟩ := at_T38 (Kd.S_reads' HO_534001.out).2.2 x6_2 p541 q541
      obtain rfl : ad538 = ad541 := (by injection e541)
      obtain ⟨ce541, hce541, hMe541, hcc541⟩ := Kd.S_get HO_534001.out z38 x6_2 p541 (by first | exact q541 | exact of_decide_eq_true zl | (have e_ := (Kd.S_reads' HO_534001.out).1; omega))
      obtain ⟨ve541_1, rfl, ge541_1⟩ := k38_openM hMe541
      have hv541_1 := hcc541 1 _ rfl
      rw [add_field _ _ 1 (by omega)] at hv541_1
      replace hv541_1 := Option.some.inj (hv541_1.symm.trans hx541_1)
      rw [hv541_1] at ge541_1
      have HL541_1 := am (show Kd.R (Kd.int .i64) 3 _ _ _ _ ((rd_T38 t530 x6_2).f1) from ge541_1)
      clear hv541_1 ge541_1 hcc541 hce541
      have HR541_1 := am hi541_1
      have HC541_1 := am hl541_1
      clear hi541_1 hl541_1
      replace p541 := eq_true p541
      replace q541 := eq_true q541
      refine start_ (n := 18) (S := fun w' => w'.cell? ⟨gb533, 0, none⟩ = some (.slice Ao8 t527.length co8) ∧ w'.cell? ⟨gb533, 1, none⟩ = some (.slice (some ad538) t530.length co10) ∧ w'.cell? (ad538.add (((ji31)).toNat * 2)) = some (.string ((rd_T38 t530 (ji31)).f0)) ∧ w'.cell? ⟨(ad538.add (((ji31)).toNat * 2)).block, (ad538.add (((ji31)).toNat * 2)).off + 1, none⟩ = some (.slice A540_1 ((rd_T38 t530 (ji31)).f1).length c540_1) ∧ w'.cell? (ad538.add ((x6_2).toNat * 2)) = some (.string ((rd_T38 t530 x6_2).f0)) ∧ w'.cell? ⟨(ad538.add ((x6_2).toNat * 2)).block, (ad538.add ((x6_2).toNat * 2)).off + 1, none⟩ = some (.slice A541_1 ((rd_T38 t530 x6_2).f1).length c541_1)) (ds := []) (bs 18 0) (by kernel_rfl) rfl rfl ⟨ce0 BK533, ce1 BK533, hx540_0, hx540_1, hx541_0, hx541_1⟩ (fun hHeld => ?_); refine with_tabW laws_FnPoolText.tab12 laws_FnPoolText.bits12 (fun HT_ HW_ => ?_)
      generalize w37.drew = w38 at HO_534000 HO_534001 HL538_1 BK533 HR538_1 HB HL540_1 HL541_1 HR540_1 HR541_1 hx540_0 hx540_1 hx541_0 hx541_1 hHeld ⊢
      refine pu 0 45 18 1 rfl rfl ?_
      refine pu 1 46 18 3 rfl rfl ?_
      refine pu 2 47 18 7 rfl rfl ?_
      refine pu 3 48 18 15 rfl rfl ?_
      refine pu 5 50 18 47 rfl rfl ?_
      refine pu 6 51 18 111 rfl rfl ?_
      refine pu 10 55 18 1135 rfl rfl ?_
      refine pu 12 57 18 5231 rfl rfl ?_
      refine ta6 4 49 18 5247 rfl rfl hHeld ?_
      refine pu 7 52 18 5375 rfl rfl ?_
      refine pu 8 53 18 5631 rfl rfl ?_
      refine ta6 9 54 18 6143 rfl rfl hHeld ?_
      refine ta6 11 56 18 8191 rfl rfl hHeld ?_
      refine pu 13 58 18 16383 rfl rfl ?_
      refine pu 14 59 18 32767 rfl rfl ?_
      refine ta6 15 60 18 65535 rfl rfl hHeld ?_
      refine pu 16 61 18 131071 rfl rfl ?_
      refine pu 17 62 18 262143 rfl rfl ?_
      refine done_ (done_of HT_.out (by kernel_rfl)) ?_
      try go_wp2
      go_roundg k2
      case measure => have := HJ4.out; have := HK2.out; omega
      case rel => exact ⟨((x5_2 ++ t539) ++ (⟨#[10]⟩ : ByteArray)), (wrap64 (x6_2 + 1)), ze, ze, H', ⟨by have := HJ4.out; have := HK2.out; omega⟩, ⟨zr HO_534000⟩, ⟨zs HO_534001⟩, ⟨zk BK533⟩, ⟨zb HB⟩⟩
    rw [if_neg c34] at H
    have c34b0 : (Op.bytesLess (((rd_T38 t530 (ji31)).f0).toList) (((rd_T38 t530 x6_2).f0).toList)) = false := by simpa using c34
    clear c34
    obtain rfl := Option.some.inj H
    have hcz39_0 := ce0 BK533
    have hcz39_1 := ce1 BK533
    have hfz39_0 := bfz BK533 0
    have hfz39_1 := bfz BK533 1
    try go_wp2
    replace HO_534000 := am (Kd.R_drew HO_534000.out)
    replace HO_534001 := am (Kd.S_drew HO_534001.out)
    replace BK533 := am (blk_drew BK533.out)
    replace HB := am (below_drew1 HB.out)
    have p538 : 0 ≤ (x6_2 : Int) := of_decide_eq_true zl
    have q538 : x6_2 < (t530.length : Int) := of_decide_eq_true zl
    obtain ⟨ad538, A538_1, c538_1, e538, hx538_0, hx538_1, hl538_1, hi538_1⟩ := at_T38 (Kd.S_reads' HO_534001.out).2.2 x6_2 p538 q538
    cases e538
    obtain ⟨ce538, hce538, hMe538, hcc538⟩ := Kd.S_get HO_534001.out z38 x6_2 p538 (by first | exact q538 | exact of_decide_eq_true zl | (have e_ := (Kd.S_reads' HO_534001.out).1; omega))
    obtain ⟨ve538_1, rfl, ge538_1⟩ := k38_openM hMe538
    have hv538_1 := hcc538 1 _ rfl
    rw [add_field _ _ 1 (by omega)] at hv538_1
    replace hv538_1 := Option.some.inj (hv538_1.symm.trans hx538_1)
    rw [hv538_1] at ge538_1
    have HL538_1 := am (show Kd.R (Kd.int .i64) 3 _ _ _ _ ((rd_T38 t530 x6_2).f1) from ge538_1)
    clear hv538_1 ge538_1 hcc538 hce538
    have HR538_1 := am hi538_1
    have HC538_1 := am hl538_1
    clear hi538_1 hl538_1
    replace p538 := eq_true p538
    replace q538 := eq_true q538
    refine start_ (n := 12) (S := fun w' => w'.cell? ⟨gb533, 0, none⟩ = some (.slice Ao8 t527.length co8) ∧ w'.cell? ⟨gb533, 1, none⟩ = some (.slice (some ad538) t530.length co10) ∧ w'.cell? (ad538.add ((x6_2).toNat * 2)) = some (.string ((rd_T38 t530 x6_2).f0)) ∧ w'.cell? ⟨(ad538.add ((x6_2).toNat * 2)).block, (ad538.add ((x6_2).toNat * 2)).off + 1, none⟩ = some (.slice A538_1 ((rd_T38 t530 x6_2).f1).length c538_1)) (ds := []) (bs 12 0) (by kernel_rfl) rfl rfl ⟨ce0 BK533, ce1 BK533, hx538_0, hx538_1⟩ (fun hHeld => ?_); refine with_tabW laws_FnPoolText.tab11 laws_FnPoolText.bits11 (fun HT_ HW_ => ?_)
    generalize wr.drew = w40 at HO_534000 HO_534001 BK533 HB HL538_1 HR538_1 hx538_0 hx538_1 hHeld ⊢
    refine pu 0 34 12 1 rfl rfl ?_
    refine pu 1 35 12 3 rfl rfl ?_
    refine pu 3 37 12 11 rfl rfl ?_
    refine pu 6 40 12 75 rfl rfl ?_
    refine ta4 2 36 12 79 rfl rfl hHeld ?_
    refine pu 4 38 12 95 rfl rfl ?_
    refine ta4 5 39 12 127 rfl rfl hHeld ?_
    refine ta4 7 41 12 255 rfl rfl hHeld ?_
    refine oz 8 12 511 rfl rfl (fun K hK => ?_)
    refine gs Try.func30 #[.agg #[.string ((rd_T38 t530 x6_2).f0), .slice A538_1 ((rd_T38 t530 x6_2).f1).length c538_1], .slice Ao8 t527.length co8] rfl rfl ?_
    with_reducible refine (impl_VolText.calls k2 ((rd_T38 t530 x6_2).f0) _ _ ((rd_T38 t530 x6_2).f1) _ _ t527 t539 _ ?side1 ?side2 ?side3 ?side4 A27.out).mono ?_
    (case side1 => exact zc (zc HR538_1.out))
    (case side2 => exact HC538_1.out)
    (case side3 => exact zc (Kd.R_reads' HO_534000.out).2.2)
    (case side4 => exact (Kd.R_reads' HO_534000.out).2.1)
    rintro e w41 ⟨rfl, hb⟩
    have HS2_ := (hb.cell (World.block_lt_of_cell? _ _ (hHeld.2.2.1))).trans (hHeld.2.2.1)
    have HS3_ := (hb.cell (World.block_lt_of_cell? _ _ (hHeld.2.2.2))).trans (hHeld.2.2.2)
    refine ⟨_, rfl, ?_⟩
    replace HO_534000 := am (Kd.R_below (zr HO_534000) hb)
    replace HO_534001 := am (Kd.S_below (zs HO_534001) hb)
    replace HL538_1 := am (Kd.R_below (zr HL538_1) hb)
    replace BK533 := am (blk_below (zk BK533) hb)
    replace HR538_1 := am (Kd.C_below (zc HR538_1.out) hb)
    replace HB := am (below_step (zb HB) hb)
    (try clear hb)
    (try clear hb2)
    (try clear hk)
    (try clear hi)
    refine hK.out _ _ ⟨ce0 BK533, ce1 BK533, HS2_, HS3_⟩ (fun hHeld => ?_)
    clear hK K
    refine norm_ (a' := ?_) ?_ ?_
    rotate_left
    · show Act.put _ (some 42) _ = _
      simp only [Act.put, List.setIfInBounds_toArray, List.set_cons_zero, List.set_cons_succ, i64_w, i32_w]
      rfl
    refine pu 9 43 12 1023 rfl rfl ?_
    refine pu 10 44 12 2047 rfl rfl ?_
    refine pu 11 5 12 4095 rfl rfl ?_
    refine done_ (done_of HT_.out (by kernel_rfl)) ?_
    try go_wp2
    replace HO_534000 := am (Kd.R_drew HO_534000.out)
    replace HO_534001 := am (Kd.S_drew HO_534001.out)
    replace HL538_1 := am (Kd.R_drew HL538_1.out)
    replace BK533 := am (blk_drew BK533.out)
    replace HR538_1 := am (Kd.C_drew HR538_1.out)
    replace HB := am (below_drew1 HB.out)
    have p540 : 0 ≤ ((ji31) : Int) := of_decide_eq_true zl
    have q540 : (ji31) < (t530.length : Int) := of_decide_eq_true zl
    obtain ⟨ad540, A540_1, c540_1, e540, hx540_0, hx540_1, hl540_1, hi540_1⟩ := at_T38 (Kd.S_reads' HO_534001.out).2.2 (ji31) p540 q540
    obtain rfl : ad538 = ad540 := (by injection e540)
    obtain ⟨ce540, hce540, hMe540, hcc540⟩ := Kd.S_get HO_534001.out z38 (ji31) p540 (by first | exact q540 | exact of_decide_eq_true zl | (have e_ := (Kd.S_reads' HO_534001.out).1; omega))
    obtain ⟨ve540_1, rfl, ge540_1⟩ := k38_openM hMe540
    have hv540_1 := hcc540 1 _ rfl
    rw [add_field _ _ 1 (by omega)] at hv540_1
    replace hv540_1 := Option.some.inj (hv540_1.symm.trans hx540_1)
    rw [hv540_1] at ge540_1
    have HL540_1 := am (show Kd.R (Kd.int .i64) 3 _ _ _ _ ((rd_T38 t530 (ji31)).f1) from ge540_1)
    clear hv540_1 ge540_1 hcc540 hce540
    have HR540_1 := am hi540_1
    have HC540_1 := am hl540_1
    clear hi540_1 hl540_1
    replace p540 := eq_true p540
    replace q540 := eq_true q540
    have p541 : 0 ≤ (x6_2 : Int) := of_decide_eq_true zl
    have q541 : x6_2 < (t530.length : Int) := of_decide_eq_true zl
    obtain ⟨ad541, A541_1, c541_1, e541, hx541_0, hx541_1, hl541_1, hi541_1⟩ := at_T38 (Kd.S_reads' HO_534001.out).2.2 x6_2 p541 q541
    obtain rfl : ad538 = ad541 := (by injection e541)
    obtain ⟨ce541, hce541, hMe541, hcc541⟩ := Kd.S_get HO_534001.out z38 x6_2 p541 (by first | exact q541 | exact of_decide_eq_true zl | (have e_ := (Kd.S_reads' HO_534001.out).1; omega))
    obtain ⟨ve541_1, rfl, ge541_1⟩ := k38_openM hMe541
    have hv541_1 := hcc541 1 _ rfl
    rw [add_field _ _ 1 (by omega)] at hv541_1
    replace hv541_1 := Option.some.inj (hv541_1.symm.trans hx541_1)
    rw [hv541_1] at ge541_1
    have HL541_1 := am (show Kd.R (Kd.int .i64) 3 _ _ _ _ ((rd_T38 t530 x6_2).f1) from ge541_1)
    clear hv541_1 ge541_1 hcc541 hce541
    have HR541_1 := am hi541_1
    have HC541_1 := am hl541_1
    clear hi541_1 hl541_1
    replace p541 := eq_true p541
    replace q541 := eq_true q541
    refine start_ (n := 18) (S := fun w' => w'.cell? ⟨gb533, 0, none⟩ = some (.slice Ao8 t527.length co8) ∧ w'.cell? ⟨gb533, 1, none⟩ = some (.slice (some ad538) t530.length co10) ∧ w'.cell? (ad538.add (((ji31)).toNat * 2)) = some (.string ((rd_T38 t530 (ji31)).f0)) ∧ w'.cell? ⟨(ad538.add (((ji31)).toNat * 2)).block, (ad538.add (((ji31)).toNat * 2)).off + 1, none⟩ = some (.slice A540_1 ((rd_T38 t530 (ji31)).f1).length c540_1) ∧ w'.cell? (ad538.add ((x6_2).toNat * 2)) = some (.string ((rd_T38 t530 x6_2).f0)) ∧ w'.cell? ⟨(ad538.add ((x6_2).toNat * 2)).block, (ad538.add ((x6_2).toNat * 2)).off + 1, none⟩ = some (.slice A541_1 ((rd_T38 t530 x6_2).f1).length c541_1)) (ds := []) (bs 18 0) (by kernel_rfl) rfl rfl ⟨ce0 BK533, ce1 BK533, hx540_0, hx540_1, hx541_0, hx541_1⟩ (fun hHeld => ?_); refine with_tabW laws_FnPoolText.tab12 laws_FnPoolText.bits12 (fun HT_ HW_ => ?_)
    generalize w41.drew = w42 at HO_534000 HO_534001 HL538_1 BK533 HR538_1 HB HL540_1 HL541_1 HR540_1 HR541_1 hx540_0 hx540_1 hx541_0 hx541_1 hHeld ⊢
    refine pu 0 45 18 1 rfl rfl ?_
    refine pu 1 46 18 3 rfl rfl ?_
    refine pu 2 47 18 7 rfl rfl ?_
    refine pu 3 48 18 15 rfl rfl ?_
    refine pu 5 50 18 47 rfl rfl ?_
    refine pu 6 51 18 111 rfl rfl ?_
    refine pu 10 55 18 1135 rfl rfl ?_
    refine pu 12 57 18 5231 rfl rfl ?_
    refine ta6 4 49 18 5247 rfl rfl hHeld ?_
    refine pu 7 52 18 5375 rfl rfl ?_
    refine pu 8 53 18 5631 rfl rfl ?_
    refine ta6 9 54 18 6143 rfl rfl hHeld ?_
    refine ta6 11 56 18 8191 rfl rfl hHeld ?_
    refine pu 13 58 18 16383 rfl rfl ?_
    refine pu 14 59 18 32767 rfl rfl ?_
    refine ta6 15 60 18 65535 rfl rfl hHeld ?_
    refine pu 16 61 18 131071 rfl rfl ?_
    refine pu 17 62 18 262143 rfl rfl ?_
    refine done_ (done_of HT_.out (by kernel_rfl)) ?_
    try go_wp2
    go_ret
    exact ⟨by first | rfl | (simp [errW_none, errW_some] <;> rfl) | (simp only [← hji31]; first | rfl | (simp [errW_none, errW_some] <;> rfl)) | (simp [*, errW_none, errW_some] <;> rfl), (zb HB)⟩
/-- THE ONE PURE STATEMENT of laws_FnPoolText: yours. -/
def laws_FnPoolText.Pure : Prop := ∀ (l0 : List Int), l0.length ≤ maxLen → l0.length * 1 ≤ 140737488351232 → (∀ x ∈ l0, (Lit.int .u8 x).wf = true) → ∃ k, laws_FnPoolText.f k l0 = some true
theorem laws_FnPoolText.walk (P : laws_FnPoolText.Pure) (a0 : Option Addr) (len0 cap0 : Nat) (z0 : List Int) (w : World) (w0 : (a0 = none ∧ len0 = 0 ∧ cap0 = 0 ∧ z0 = []) ∨ ∃ x, a0 = some x ∧ len0 ≤ cap0 ∧ cap0 ≤ maxLen ∧ z0.length = cap0 ∧ (∀ i, i < z0.length → w.cell? (x.add i) = some (.int .u8 (z0.getD i 0))) ∧ ∀ n ∈ z0, (Lit.int .u8 n).wf = true) (y0 : len0 * 1 ≤ 140737488351232) :
 Calls Try.prog 11 #[.slice a0 len0 cap0] w fun e w' => e = .returned (.bool true) ∧ Below w.heap.size w w' := by
 obtain ⟨l0, rfl, hr0, hm0, hw0, hc0⟩ := ReadsInt.ofRowC w0
 obtain ⟨k, h⟩ := P l0 hm0 y0 hw0
 refine (laws_FnPoolText.calls k _ _ l0 true w (Kd.C_of_reads (d := (0 : Int)) (h1 := fun _ => rfl) hr0) hc0 h).mono ?_
 rintro e w' ⟨rfl, hd⟩
 exact ⟨rfl, hd⟩
end Go.Proofs.Ytooamacekmjpaaa.PFnPoolText
