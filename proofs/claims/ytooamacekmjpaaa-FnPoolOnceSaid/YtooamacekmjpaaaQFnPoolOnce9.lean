/- The walk: each function that the law comes to as a plain Lean function, and a proof that the Go code answers so. Written by this session's program over the kit's printer. -/
import Derived.Test.YtooamacekmjpaaaZ
import Derived.Test.YtooamacekmjpaaaQFnPoolOnce0
import Derived.Test.YtooamacekmjpaaaQFnPoolOnce1
import Derived.Test.YtooamacekmjpaaaQFnPoolOnce7
import Derived.Test.YtooamacekmjpaaaQFnPoolOnce8
namespace Go.Proofs.Ytooamacekmjpaaa.PFnPoolOnce
open Go.RowKit Go.Proofs.YtooamacekmjpaaaW.PrintWords Go.Proofs.YtooamacekmjpaaaW.PrintLast Go.Proofs.YtooamacekmjpaaaW.PrintMore
attribute [local go_sem] max2_int min2_int max_two min_two max_three min_three max_four min_four   -- for this text's walks alone
set_option linter.unusedVariables false
set_option linter.unusedSimpArgs false
/-! ### spec_l11Write: function 89 -/
mutual
def spec_l11Write.j0 : Nat → Int → ByteArray → Int → Bool → List (S55) → List (S38) → Option ((List (S55)) × (List (S38)) × Bool)
 | 0, _, _, _, _, _, _ => none
 | k + 1, x2, x3, x10, x38, x226000, x226001 => if x38 = true then (some (x226000, x226001, false)) else ((spec_l11Copy.f k x226000 x226001).bind fun bt231 => (if 0 ≤ x10 then (if x10 < (bt231.2.length : Int) then (if 0 ≤ x2 then (if x2 < (((rd_T38 bt231.2 x10).f1).length : Int) then (if (rd ((rd_T38 bt231.2 x10).f1) x2) > 0 then ((spec_l2Drop.f bt231.1 (rd ((rd_T38 bt231.2 x10).f1) x2)).bind fun t240 => (spec_l11Write.j1 k x2 x3 x10 x226000 x226001 t240 bt231.2)) else (spec_l11Write.j1 k x2 x3 x10 x226000 x226001 bt231.1 bt231.2)) else (none)) else (none)) else (none)) else (none)))
def spec_l11Write.j1 : Nat → Int → ByteArray → Int → List (S55) → List (S38) → List (S55) → List (S38) → Option ((List (S55)) × (List (S38)) × Bool)
 | 0, _, _, _, _, _, _, _ => none
 | k + 1, x2, x3, x10, x226000, x226001, x238000, x238001 => if 0 ≤ x10 then (if x10 < (x238001.length : Int) then (if 0 ≤ x2 then (if x2 < (((rd_T38 x238001 x10).f1).length : Int) then ((some (x238001.set (x10 : Int).toNat (⟨(rd_T38 x238001 x10).f0, (((rd_T38 x238001 x10).f1).set (x2 : Int).toNat 0)⟩ : S38) : List (S38))).bind fun y246 => (if x3.toList = ([] : List UInt8) then (some (x238000, y246, true)) else ((spec_l2Put.f k x238000 x3).bind fun bt247 => (if bt247.2.2 = true then (if x2 < (((rd_T38 y246 x10).f1).length : Int) then (some (bt247.1, (y246.set (x10 : Int).toNat (⟨(rd_T38 y246 x10).f0, (((rd_T38 y246 x10).f1).set (x2 : Int).toNat bt247.2.1)⟩ : S38)), true)) else (none)) else (some (x226000, x226001, false)))))) else (none)) else (none)) else (none)) else (none)
end
def spec_l11Write.f (k : Nat) (l0_0 : List (S55)) (l0_1 : List (S38)) (a1 : ByteArray) (a2 : Int) (a3 : ByteArray) : Option ((List (S55)) × (List (S38)) × Bool) := (spec_l11At.f k l0_0 l0_1 a1).bind fun t227 => (if t227 < 0 then (spec_l11Write.j0 k a2 a3 t227 true l0_0 l0_1) else (if 0 ≤ t227 then (if t227 < (l0_1.length : Int) then ((spec_l6In.f a2 0 (wrap64 ((((rd_T38 l0_1 t227).f1).length : Int) - 1))).bind fun t229 => (if t229 = true then ((spec_TextOk.f k a3).bind fun t230 => (spec_l11Write.j0 k a2 a3 t227 (!t230) l0_0 l0_1)) else (spec_l11Write.j0 k a2 a3 t227 true l0_0 l0_1))) else (none)) else (none)))
theorem spec_l11Write.mono_l : ∀ k, (∀ y0 y1 y2 y3 y4 y5, LeO (spec_l11Write.j0 k y0 y1 y2 y3 y4 y5) (spec_l11Write.j0 (k + 1) y0 y1 y2 y3 y4 y5)) ∧ (∀ y0 y1 y2 y3 y4 y5 y6, LeO (spec_l11Write.j1 k y0 y1 y2 y3 y4 y5 y6) (spec_l11Write.j1 (k + 1) y0 y1 y2 y3 y4 y5 y6))
 | 0 => ⟨fun _ _ _ _ _ _ r h => by simp [spec_l11Write.j0] at h, fun _ _ _ _ _ _ _ r h => by simp [spec_l11Write.j1] at h⟩
 | k + 1 => by
  obtain ⟨ih0, ih1⟩ := spec_l11Write.mono_l k
  refine ⟨?_, ?_⟩
  · intro y0 y1 y2 y3 y4 y5
    unfold spec_l11Write.j0
    repeat' first
    | (with_reducible exact ih0 _ _ _ _ _ _)
    | (with_reducible exact ih1 _ _ _ _ _ _ _)
    | (with_reducible exact spec_TextOk.mono _ _)
    | (with_reducible exact spec_l11At.mono _ _ _ _)
    | (with_reducible exact spec_l11Copy.mono _ _ _)
    | (with_reducible exact spec_l2Put.mono _ _ _)
    | (with_reducible exact LeO.refl _)
    | (with_reducible exact LeO.none _)
    | (with_reducible refine LeO.ite ?_ ?_)
    | (with_reducible refine LeO.bind ?_ (fun _ => ?_))
    | exact ih0 _ _ _ _ _ _
    | exact ih1 _ _ _ _ _ _ _
    | exact spec_TextOk.mono _ _
    | exact spec_l11At.mono _ _ _ _
    | exact spec_l11Copy.mono _ _ _
    | exact spec_l2Put.mono _ _ _
    | exact LeO.none _
    | refine LeO.ite ?_ ?_
    | refine LeO.bind ?_ (fun _ => ?_)
  intro y0 y1 y2 y3 y4 y5 y6
  unfold spec_l11Write.j1
  repeat' first
  | (with_reducible exact ih0 _ _ _ _ _ _)
  | (with_reducible exact ih1 _ _ _ _ _ _ _)
  | (with_reducible exact spec_TextOk.mono _ _)
  | (with_reducible exact spec_l11At.mono _ _ _ _)
  | (with_reducible exact spec_l11Copy.mono _ _ _)
  | (with_reducible exact spec_l2Put.mono _ _ _)
  | (with_reducible exact LeO.refl _)
  | (with_reducible exact LeO.none _)
  | (with_reducible refine LeO.ite ?_ ?_)
  | (with_reducible refine LeO.bind ?_ (fun _ => ?_))
  | exact ih0 _ _ _ _ _ _
  | exact ih1 _ _ _ _ _ _ _
  | exact spec_TextOk.mono _ _
  | exact spec_l11At.mono _ _ _ _
  | exact spec_l11Copy.mono _ _ _
  | exact spec_l2Put.mono _ _ _
  | exact LeO.none _
  | refine LeO.ite ?_ ?_
  | refine LeO.bind ?_ (fun _ => ?_)
theorem spec_l11Write.mono : ∀ a0 a1 a2 a3 a4 k, LeO (spec_l11Write.f k a0 a1 a2 a3 a4) (spec_l11Write.f (k + 1) a0 a1 a2 a3 a4) := by
 intro a0 a1 a2 a3 a4 k
 obtain ⟨ih0, ih1⟩ := spec_l11Write.mono_l k
 unfold spec_l11Write.f
 repeat' first
  | (with_reducible exact ih0 _ _ _ _ _ _)
  | (with_reducible exact ih1 _ _ _ _ _ _ _)
  | (with_reducible exact spec_TextOk.mono _ _)
  | (with_reducible exact spec_l11At.mono _ _ _ _)
  | (with_reducible exact spec_l11Copy.mono _ _ _)
  | (with_reducible exact spec_l2Put.mono _ _ _)
  | (with_reducible exact LeO.refl _)
  | (with_reducible exact LeO.none _)
  | (with_reducible refine LeO.ite ?_ ?_)
  | (with_reducible refine LeO.bind ?_ (fun _ => ?_))
  | exact ih0 _ _ _ _ _ _
  | exact ih1 _ _ _ _ _ _ _
  | exact spec_TextOk.mono _ _
  | exact spec_l11At.mono _ _ _ _
  | exact spec_l11Copy.mono _ _ _
  | exact spec_l2Put.mono _ _ _
  | exact LeO.none _
  | refine LeO.ite ?_ ?_
  | refine LeO.bind ?_ (fun _ => ?_)
set_option maxHeartbeats 8000000 in
set_option maxRecDepth 100000 in
theorem spec_l11Write.calls (k : Nat) (A0_0 : Option Addr) (c0_0 : Nat) (l0_0 : List (S55)) (A0_1 : Option Addr) (c0_1 : Nat) (l0_1 : List (S38)) (a1 : ByteArray) (a2 : Int) (a3 : ByteArray) (r1 : List (S55)) (r2 : List (S38)) (r3 : Bool) (w : World) (hr0_0 : Kd.C k55 w A0_0 l0_0.length l0_0) (hc0_0 : l0_0.length ≤ c0_0) (hr0_1 : Kd.C k38 w A0_1 l0_1.length l0_1) (hc0_1 : l0_1.length ≤ c0_1) (b_ : Nat) (hb_ : b_ ≤ w.heap.size) (hq0_0 : Kd.R k55 55 w b_ (fun _ => True) (.slice A0_0 l0_0.length c0_0) l0_0) (hq0_1 : Kd.S k38 38 w b_ (fun _ => True) (.slice A0_1 l0_1.length c0_1) l0_1) (h : spec_l11Write.f k l0_0 l0_1 a1 a2 a3 = some (r1, r2, r3)) :
 Calls Try.prog 89 #[.agg #[.slice A0_0 l0_0.length c0_0, .slice A0_1 l0_1.length c0_1], .string a1, .int .i64 a2, .string a3] w fun e w' => ∃ v0_ v1_ : Value, e = .returned (.tuple #[.agg #[v0_, v1_], .bool r3]) ∧ Kd.R k55 55 w' b_ (fun _ => True) v0_ r1 ∧ Kd.S k38 38 w' b_ (fun _ => True) v1_ r2 ∧ Below w.heap.size w w' := by
 have hu31 := Try.underlying31
 have HR0_0 := am hr0_0
 have HC0_0 := am hc0_0
 clear hr0_0 hc0_0
 have HR0_1 := am hr0_1
 have HC0_1 := am hc0_1
 clear hr0_1 hc0_1
 have HB := am (Below.refl w.heap.size w)
 have H : ((spec_l11At.f k l0_0 l0_1 a1).bind fun t227 => (if t227 < 0 then (spec_l11Write.j0 k a2 a3 t227 true l0_0 l0_1) else (if 0 ≤ t227 then (if t227 < (l0_1.length : Int) then ((spec_l6In.f a2 0 (wrap64 ((((rd_T38 l0_1 t227).f1).length : Int) - 1))).bind fun t229 => (if t229 = true then ((spec_TextOk.f k a3).bind fun t230 => (spec_l11Write.j0 k a2 a3 t227 (!t230) l0_0 l0_1)) else (spec_l11Write.j0 k a2 a3 t227 true l0_0 l0_1))) else (none)) else (none)))) = some (r1, r2, r3) := h
 clear h
 replace H := obs H
 obtain ⟨t227, A50, H⟩ := H
 replace H : (if t227 < 0 then (spec_l11Write.j0 k a2 a3 t227 true l0_0 l0_1) else (if 0 ≤ t227 then (if t227 < (l0_1.length : Int) then ((spec_l6In.f a2 0 (wrap64 ((((rd_T38 l0_1 t227).f1).length : Int) - 1))).bind fun t229 => (if t229 = true then ((spec_TextOk.f k a3).bind fun t230 => (spec_l11Write.j0 k a2 a3 t227 (!t230) l0_0 l0_1)) else (spec_l11Write.j0 k a2 a3 t227 true l0_0 l0_1))) else (none)) else (none))) = some (r1, r2, r3) := H
 have A5 := am A50
 clear A50
 have HC6 := am H
 clear H
 go_enter Try.func89, Try.ntmps89
 go_upto_region 2 with (first | ((with_reducible refine gate_dst (N := 4) rfl ?_); (try (refine gate_guard (by rfl) ?_; dsimp only)); refine bx 31 #[.slice A0_0 l0_0.length c0_0, .slice A0_1 l0_1.length c0_1] ?_; intro gb225 hg w7 hbox hb; have BK225 := am (hbox); have GW225 := am (zn hg (zb HB)); have GE225 := am (zn hg (zb HB)); replace HB := am (below_step (zb HB) hb); clear hb hbox hg) | ((with_reducible refine gate_dst (N := 8) rfl ?_); (try (refine gate_guard (by rfl) ?_; dsimp only)); refine bx 31 #[.slice none 0 0, .slice none 0 0] ?_; intro gb226 hg w8 hbox hb; have BK226 := am (hbox); have GW226 := am (zn hg (zb HB)); have GE226 := am (zn hg (zb HB)); replace HB := am (below_step (zb HB) hb); have NB225_226 := am (zx hg (zk BK225)); have NB226_225 := am (zy hg (zk BK225)); replace BK225 := am (blk_below (zk BK225) hb); clear hb hbox hg; have hnb9 := NB225_226.out; have hnc9 := NB226_225.out; have hcz10_0 := ce0 BK225; have hcz10_1 := ce1 BK225; have hfz10_0 := bfz BK225 0; have hfz10_1 := bfz BK225 1) | ((with_reducible refine gate_callee (f := 57) rfl ?_); refine gl Try.func57 18 #[.agg #[.slice A0_0 l0_0.length c0_0, .slice A0_1 l0_1.length c0_1], .string a1] rfl rfl rfl ?_; (with_reducible refine (spec_l11At.calls k _ _ l0_0 _ _ l0_1 a1 t227 _ ?side1 ?side2 ?side3 ?side4 A5.out).mono ?_); (case side1 => exact zc (Kd.C_below HR0_0.out HB.out)); (case side2 => exact HC0_0.out); (case side3 => exact zc (Kd.C_below HR0_1.out HB.out)); (case side4 => exact HC0_1.out); rintro e w11 ⟨rfl, hb⟩; refine ⟨_, rfl, ?_⟩; replace BK225 := am (blk_below (zk BK225) hb); replace BK226 := am (blk_below (zk BK226) hb); replace HB := am (below_step (zb HB) hb); (try clear hb); (try clear hb2); (try clear hk); (try clear hi)))
 (try simp only [Act.put, List.setIfInBounds_toArray, List.set_cons_zero, List.set_cons_succ])
 go_cut [38] (fun v38 wc => ∃ (kq : Nat) (x38_5 : Bool), v38 = .bool x38_5 ∧ Aside0 (spec_l11Write.j0 kq a2 a3 t227 x38_5 l0_0 l0_1 = some (r1, r2, r3)) ∧ Aside0 (kq ≤ k) ∧ Aside0 (wc.heap[gb225]? = some (.cells #[(.slice A0_0 l0_0.length c0_0), (.slice A0_1 l0_1.length c0_1)] 31 (0, 0))) ∧ Aside0 (wc.heap[gb226]? = some (.cells #[(.slice none 0 0), (.slice none 0 0)] 31 (0, 0))) ∧ Aside0 (Below w.heap.size w wc))
 case first =>
  have H := HC6.out
  clear HC6
  by_cases c12 : t227 < 0
  · rw [if_pos c12] at H
    have c12b0 : decide (t227 < 0) = true := decide_eq_true c12
    clear c12
    (first | rw [c12b0] | (simp only [i64_w, i32_w]; rw [c12b0]) | skip)
    have H' := am H
    clear H
    go_wp2
    go_meet
    case rel => exact ⟨_, (true), ze, H', ⟨by first | omega | exact Nat.le_refl _⟩, ⟨zk BK225⟩, ⟨zk BK226⟩, ⟨zb HB⟩⟩
  rw [if_neg c12] at H
  have c12b0 : decide (t227 < 0) = false := decide_eq_false c12
  clear c12
  (first | rw [c12b0] | (simp only [i64_w, i32_w]; rw [c12b0]) | skip)
  by_cases c13 : 0 ≤ t227
  rotate_left
  · rw [if_neg c13] at H
    exact absurd H (by simp)
  rw [if_pos c13] at H
  have c13b0 : decide (0 ≤ t227) = true := decide_eq_true c13
  clear c13
  by_cases c14 : t227 < (l0_1.length : Int)
  rotate_left
  · rw [if_neg c14] at H
    exact absurd H (by simp)
  rw [if_pos c14] at H
  have c14b0 : decide (t227 < (l0_1.length : Int)) = true := decide_eq_true c14
  clear c14
  replace H := obs H
  obtain ⟨t229, A150, H⟩ := H
  replace H : (if t229 = true then ((spec_TextOk.f k a3).bind fun t230 => (spec_l11Write.j0 k a2 a3 t227 (!t230) l0_0 l0_1)) else (spec_l11Write.j0 k a2 a3 t227 true l0_0 l0_1)) = some (r1, r2, r3) := H
  have A15 := am A150
  clear A150
  by_cases c16 : t229 = true
  rotate_left
  · replace c16 := Bool.eq_false_iff.mpr c16
    subst c16
    have H1 : (spec_l11Write.j0 k a2 a3 t227 true l0_0 l0_1) = some (r1, r2, r3) := by rw [if_neg (show ¬ (false = true) by decide)] at H; exact H
    clear H
    have H := H1
    clear H1
    have H' := am H
    clear H
    have hnb20 := NB225_226.out
    have hnc20 := NB226_225.out
    have hcz21_0 := ce0 BK225
    have hcz21_1 := ce1 BK225
    have hfz21_0 := bfz BK225 0
    have hfz21_1 := bfz BK225 1
    have p228 : 0 ≤ (t227 : Int) := of_decide_eq_true zl
    have q228 : t227 < (l0_1.length : Int) := of_decide_eq_true zl
    obtain ⟨ad228, A228_1, c228_1, e228, hx228_0, hx228_1, hl228_1, hi228_1⟩ := at_T38 HR0_1.out t227 p228 q228
    cases e228
    replace hx228_0 := hcx HB hx228_0
    replace hx228_1 := hcx HB hx228_1
    have HR228_1 := am hi228_1
    have HC228_1 := am hl228_1
    clear hi228_1 hl228_1
    replace p228 := eq_true p228
    replace q228 := eq_true q228
    go_wp2_with (first | (go_at_call 55; (with_reducible refine (spec_l6In.calls a2 0 (wrap64 ((((rd_T38 l0_1 t227).f1).length : Int) - 1)) false _ A15.out).mono ?_); rintro e w' ⟨rfl, ⟨nd, rfl⟩⟩))
    go_meet
    case rel => exact ⟨_, (true), ze, H', ⟨by first | omega | exact Nat.le_refl _⟩, ⟨zk BK225⟩, ⟨zk BK226⟩, ⟨zb HB⟩⟩
  subst c16
  have H1 : ((spec_TextOk.f k a3).bind fun t230 => (spec_l11Write.j0 k a2 a3 t227 (!t230) l0_0 l0_1)) = some (r1, r2, r3) := by rw [if_pos rfl] at H; exact H
  clear H
  have H := H1
  clear H1
  replace H := obs H
  obtain ⟨t230, A170, H⟩ := H
  replace H : (spec_l11Write.j0 k a2 a3 t227 (!t230) l0_0 l0_1) = some (r1, r2, r3) := H
  have A17 := am A170
  clear A170
  have H' := am H
  clear H
  have hnb18 := NB225_226.out
  have hnc18 := NB226_225.out
  have hcz19_0 := ce0 BK225
  have hcz19_1 := ce1 BK225
  have hfz19_0 := bfz BK225 0
  have hfz19_1 := bfz BK225 1
  have p228 : 0 ≤ (t227 : Int) := of_decide_eq_true zl
  have q228 : t227 < (l0_1.length : Int) := of_decide_eq_true zl
  obtain ⟨ad228, A228_1, c228_1, e228, hx228_0, hx228_1, hl228_1, hi228_1⟩ := at_T38 HR0_1.out t227 p228 q228
  cases e228
  replace hx228_0 := hcx HB hx228_0
  replace hx228_1 := hcx HB hx228_1
  have HR228_1 := am hi228_1
  have HC228_1 := am hl228_1
  clear hi228_1 hl228_1
  replace p228 := eq_true p228
  replace q228 := eq_true q228
  go_wp2_with (first | (go_at_call 55; (with_reducible refine (spec_l6In.calls a2 0 (wrap64 ((((rd_T38 l0_1 t227).f1).length : Int) - 1)) true _ A15.out).mono ?_); rintro e w' ⟨rfl, ⟨nd, rfl⟩⟩) | (go_at_call 65; (with_reducible refine (spec_TextOk.calls k a3 t230 _ A17.out).mono ?_); rintro e w' ⟨rfl, ⟨nd, rfl⟩⟩))
  go_meet
  case rel => exact ⟨_, (!t230), ze, H', ⟨by first | omega | exact Nat.le_refl _⟩, ⟨zk BK225⟩, ⟨zk BK226⟩, ⟨zb HB⟩⟩
 clear HC6
 try clear c1
 try clear c2
 try clear p2
 try clear q2
 try clear hx2
 try clear c5
 try clear p6
 try clear c8
 try clear c9
 try clear c12
 try clear c12b0
 try clear c13
 try clear c13b0
 try clear c14
 try clear c14b0
 try clear c16
 try clear c18
 try clear c20
 try clear hcz10_0
 try clear hcz10_1
 try clear hcz19_0
 try clear hcz19_1
 try clear hcz21_0
 try clear hcz21_1
 try clear hfz10_0
 try clear hfz10_1
 try clear hfz19_0
 try clear hfz19_1
 try clear hfz21_0
 try clear hfz21_1
 try clear hx228_0
 try clear hx228_1
 try clear p228
 try clear q228
 obtain ⟨kq, x38_5, rfl, HA, HJ5, BK225, BK226, HB⟩ := hcut
 cases kq with
 | zero => exact absurd HA.out (by simp [spec_l11Write.j0])
 | succ kj5 =>
  have H := HA.out
  clear HA
  simp only [spec_l11Write.j0] at H
  by_cases c22 : x38_5 = true
  · subst c22
    have H1 : (some (l0_0, l0_1, false)) = some (r1, r2, r3) := by rw [if_pos rfl] at H; exact H
    clear H
    have H := H1
    clear H1
    simp only [Option.some.injEq, Prod.mk.injEq] at H
    obtain ⟨rfl, rfl, rfl⟩ := H
    have hnb23 := NB225_226.out
    have hnc23 := NB226_225.out
    have hcz24_0 := ce0 BK225
    have hcz24_1 := ce1 BK225
    have hfz24_0 := bfz BK225 0
    have hfz24_1 := bfz BK225 1
    have hcz25_0 := ce0 BK226
    have hcz25_1 := ce1 BK226
    have hfz25_0 := bfz BK226 0
    have hfz25_1 := bfz BK226 1
    go_wp2
    refine bodyPost_ret (results_ct rfl _ _ gb226 31 #[.slice A0_0 l0_0.length c0_0, .slice A0_1 l0_1.length c0_1] (0, 0) _ rfl (zp BK226) Try.underlying31 rfl (by kernel_rfl)) rfl ?_
    exact ⟨_, _, zw, (Kd.R_below hq0_0 (zb HB)), (Kd.S_below hq0_1 (zb HB)), (zb HB)⟩
  replace c22 := Bool.eq_false_iff.mpr c22
  subst c22
  have H1 : ((spec_l11Copy.f kj5 l0_0 l0_1).bind fun bt231 => (if 0 ≤ t227 then (if t227 < (bt231.2.length : Int) then (if 0 ≤ a2 then (if a2 < (((rd_T38 bt231.2 t227).f1).length : Int) then (if (rd ((rd_T38 bt231.2 t227).f1) a2) > 0 then ((spec_l2Drop.f bt231.1 (rd ((rd_T38 bt231.2 t227).f1) a2)).bind fun t240 => (spec_l11Write.j1 kj5 a2 a3 t227 l0_0 l0_1 t240 bt231.2)) else (spec_l11Write.j1 kj5 a2 a3 t227 l0_0 l0_1 bt231.1 bt231.2)) else (none)) else (none)) else (none)) else (none))) = some (r1, r2, r3) := by rw [if_neg (show ¬ (false = true) by decide)] at H; exact H
  clear H
  have H := H1
  clear H1
  replace H := obs H
  obtain ⟨⟨t231, t234⟩, A260, H⟩ := H
  replace H : (if 0 ≤ t227 then (if t227 < (t234.length : Int) then (if 0 ≤ a2 then (if a2 < (((rd_T38 t234 t227).f1).length : Int) then (if (rd ((rd_T38 t234 t227).f1) a2) > 0 then ((spec_l2Drop.f t231 (rd ((rd_T38 t234 t227).f1) a2)).bind fun t240 => (spec_l11Write.j1 kj5 a2 a3 t227 l0_0 l0_1 t240 t234)) else (spec_l11Write.j1 kj5 a2 a3 t227 l0_0 l0_1 t231 t234)) else (none)) else (none)) else (none)) else (none)) = some (r1, r2, r3) := H
  have A26 := am A260
  clear A260
  by_cases c27 : 0 ≤ t227
  rotate_left
  · rw [if_neg c27] at H
    exact absurd H (by simp)
  rw [if_pos c27] at H
  have c27b0 : decide (0 ≤ t227) = true := decide_eq_true c27
  clear c27
  by_cases c28 : t227 < (t234.length : Int)
  rotate_left
  · rw [if_neg c28] at H
    exact absurd H (by simp)
  rw [if_pos c28] at H
  have c28b0 : decide (t227 < (t234.length : Int)) = true := decide_eq_true c28
  clear c28
  by_cases c29 : 0 ≤ a2
  rotate_left
  · rw [if_neg c29] at H
    exact absurd H (by simp)
  rw [if_pos c29] at H
  have c29b0 : decide (0 ≤ a2) = true := decide_eq_true c29
  clear c29
  by_cases c30 : a2 < (((rd_T38 t234 t227).f1).length : Int)
  rotate_left
  · rw [if_neg c30] at H
    exact absurd H (by simp)
  rw [if_pos c30] at H
  have c30b0 : decide (a2 < (((rd_T38 t234 t227).f1).length : Int)) = true := decide_eq_true c30
  clear c30
  have HC31 := am H
  clear H
  have hnb32 := NB225_226.out
  have hnc32 := NB226_225.out
  have hcz33_0 := ce0 BK225
  have hcz33_1 := ce1 BK225
  have hfz33_0 := bfz BK225 0
  have hfz33_1 := bfz BK225 1
  go_upto_if 52 with (first | ((with_reducible refine gate_callee (f := 82) rfl ?_); refine gl Try.func82 41 #[.agg #[.slice A0_0 l0_0.length c0_0, .slice A0_1 l0_1.length c0_1]] rfl rfl rfl ?_; (with_reducible refine (spec_l11Copy.calls kj5 _ _ l0_0 _ _ l0_1 t231 t234 _ ?side1 ?side2 ?side3 ?side4 A26.out).mono ?_); (case side1 => exact zc (Kd.C_below HR0_0.out HB.out)); (case side2 => exact HC0_0.out); (case side3 => exact zc (Kd.C_below HR0_1.out HB.out)); (case side4 => exact HC0_1.out); rintro e w34 ⟨v232, v235, rfl, ho0, ho1, hb⟩; refine ⟨_, rfl, ?_⟩; have HO233 := am (Kd.R_lower ho0 (below_size (zb HB))); have HO236 := am (Kd.S_lower ho1 (below_size (zb HB))); replace BK225 := am (blk_below (zk BK225) hb); replace BK226 := am (blk_below (zk BK226) hb); replace HB := am (below_step (zb HB) hb); (try clear hb); (try clear hb2); (try clear hk); (try clear hi); (try clear ho0); (try clear ho1)) | ((with_reducible refine gate_dst (N := 11) rfl ?_); (try (refine gate_guard (by rfl) ?_; dsimp only)); refine bx 31 #[.slice none 0 0, .slice none 0 0] ?_; intro gb237 hg w35 hbox hb; replace HO233 := am (Kd.R_below (zr HO233) hb); replace HO236 := am (Kd.S_below (zs HO236) hb); have BK237 := am (hbox); have GW237 := am (zn hg (zb HB)); have GE237 := am (zn hg (zb HB)); replace HB := am (below_step (zb HB) hb); have NB225_237 := am (zx hg (zk BK225)); have NB237_225 := am (zy hg (zk BK225)); replace BK225 := am (blk_below (zk BK225) hb); have NB226_237 := am (zx hg (zk BK226)); have NB237_226 := am (zy hg (zk BK226)); replace BK226 := am (blk_below (zk BK226) hb); clear hb hbox hg; obtain ⟨Ao36, co36, eo36⟩ := Kd.R_slice HO233.out; subst eo36; have hnb37 := NB237_225.out; have hnc37 := NB225_237.out; have hnb38 := NB237_226.out; have hnc38 := NB226_237.out; have hcz39_0 := ce0 BK237; have hcz39_1 := ce1 BK237; have hfz39_0 := bfz BK237 0; have hfz39_1 := bfz BK237 1; obtain ⟨Ao40, co40, eo40⟩ := Kd.S_slice HO236.out; subst eo40) | ((with_reducible refine gate_store (t := 31) (p := 11) rfl ?_); refine store_event (t := 31) (p := 11) (v := ?vo_w41) (w1 := ((w35.setCell ⟨gb237, 0, none⟩ (.slice Ao36 t231.length co36)).setCell ⟨gb237, 1, none⟩ (.slice Ao40 t234.length co40))) ?hg ?ho ?hn ?hr ?_; (case ho => rfl); (case hg => rfl); (case hn => rfl); (case hr => first | (go_simp; done) | (go_simp; rfl)); intro w41 hw; replace HO233 : Aside0 (Kd.R k55 55 w41 w.heap.size (fun _ => True) (.slice Ao36 t231.length co36) t231) := ⟨(by rw [hw]; exact (by (with_reducible repeat (first | apply Kd.R_alloc | apply Kd.R_drewN | apply Kd.R_drew)); exact Kd.R_mono (Kd.R_far (p := ⟨gb237, 1, none⟩) (Kd.R_far (p := ⟨gb237, 0, none⟩) (Kd.R_types HO233.out BK237.out (by decide)) (fun _ hk => hk.2) (.slice Ao36 t231.length co36)) (fun _ hk => hk.2) (.slice Ao40 t234.length co40)) (fun _ hk => trivial)))⟩; replace HO236 : Aside0 (Kd.S k38 38 w41 w.heap.size (fun _ => True) (.slice Ao40 t234.length co40) t234) := ⟨(by rw [hw]; exact (by (with_reducible repeat (first | apply Kd.S_alloc | apply Kd.S_drewN | apply Kd.S_drew)); exact Kd.S_mono (Kd.S_far (p := ⟨gb237, 1, none⟩) (Kd.S_far (p := ⟨gb237, 0, none⟩) (Kd.S_types HO236.out BK237.out (by decide)) (fun _ hk => hk.2) (.slice Ao36 t231.length co36)) (fun _ hk => hk.2) (.slice Ao40 t234.length co40)) (fun _ hk => trivial)))⟩; replace BK225 : Aside0 (w41.heap[gb225]? = some (.cells #[.slice A0_0 l0_0.length c0_0, .slice A0_1 l0_1.length c0_1] 31 (0, 0))) := ⟨(by rw [hw]; exact (zk BK225))⟩; replace BK226 : Aside0 (w41.heap[gb226]? = some (.cells #[.slice none 0 0, .slice none 0 0] 31 (0, 0))) := ⟨(by rw [hw]; exact (zk BK226))⟩; replace BK237 : Aside0 (w41.heap[gb237]? = some (.cells #[.slice Ao36 t231.length co36, .slice Ao40 t234.length co40] 31 (0, 0))) := ⟨(by rw [hw]; exact (zp BK237))⟩; replace HB : Aside0 (Below w.heap.size w w41) := ⟨(by rw [hw]; exact (zb HB))⟩; clear hw; have hcz42_0 := ce0 BK237; have hcz42_1 := ce1 BK237; have hfz42_0 := bfz BK237 0; have hfz42_1 := bfz BK237 1; have p238 : 0 ≤ (t227 : Int) := of_decide_eq_true zl; have q238 : t227 < (t234.length : Int) := of_decide_eq_true zl; obtain ⟨ad238, A238_1, c238_1, e238, hx238_0, hx238_1, hl238_1, hi238_1⟩ := at_T38 (Kd.S_reads' HO236.out).2.2 t227 p238 q238; cases e238; obtain ⟨ce238, hce238, hMe238, hcc238⟩ := Kd.S_get HO236.out z38 t227 p238 (by first | exact q238 | exact of_decide_eq_true zl | (have e_ := (Kd.S_reads' HO236.out).1; omega)); obtain ⟨ve238_1, rfl, ge238_1⟩ := k38_openM hMe238; have hv238_1 := hcc238 1 _ rfl; rw [add_field _ _ 1 (by omega)] at hv238_1; replace hv238_1 := Option.some.inj (hv238_1.symm.trans hx238_1); rw [hv238_1] at ge238_1; have HL238_1 := am (show Kd.R (Kd.int .i64) 3 _ _ _ _ ((rd_T38 t234 t227).f1) from ge238_1); clear hv238_1 ge238_1; have HX238_1 := am hx238_1; clear hcc238 hce238; have HR238_1 := am hi238_1; have HC238_1 := am hl238_1; clear hi238_1 hl238_1; replace p238 := eq_true p238; replace q238 := eq_true q238; have p239 : 0 ≤ (a2 : Int) := of_decide_eq_true zl; have q239 : a2 < (((rd_T38 t234 t227).f1).length : Int) := of_decide_eq_true zl; obtain ⟨ad239, e239, hx239_0⟩ := Kd.at_int (zc HR238_1.out) a2 p239 q239; cases e239; replace p239 := eq_true p239; replace q239 := eq_true q239))
  (try simp only [Act.put, List.setIfInBounds_toArray, List.set_cons_zero, List.set_cons_succ])
  go_cut [] (fun wc => ∃ (kq : Nat) (x238000_30 : List (S55)) (u238000 : Value), Aside0 (spec_l11Write.j1 kq a2 a3 t227 l0_0 l0_1 x238000_30 t234 = some (r1, r2, r3)) ∧ Aside0 (kq ≤ kj5) ∧ Aside0 (Kd.R k55 55 wc w.heap.size (fun _ => True) u238000 x238000_30) ∧ Aside0 (Kd.S k38 38 wc w.heap.size (fun _ => True) (.slice (some ad238) t234.length co40) t234) ∧ Aside0 (wc.heap[gb225]? = some (.cells #[(.slice A0_0 l0_0.length c0_0), (.slice A0_1 l0_1.length c0_1)] 31 (0, 0))) ∧ Aside0 (wc.heap[gb226]? = some (.cells #[(.slice none 0 0), (.slice none 0 0)] 31 (0, 0))) ∧ Aside0 (wc.heap[gb237]? = some (.cells #[u238000, (.slice (some ad238) t234.length co40)] 31 (0, 0))) ∧ Aside0 (Below w.heap.size w wc))
  case first =>
   have H := HC31.out
   clear HC31
   by_cases c43 : (rd ((rd_T38 t234 t227).f1) a2) > 0
   rotate_left
   · rw [if_neg c43] at H
     have c43b0 : decide (0 < (rd ((rd_T38 t234 t227).f1) a2)) = false := decide_eq_false c43
     clear c43
     (first | rw [c43b0] | (simp only [i64_w, i32_w]; rw [c43b0]) | skip)
     have H' := am H
     clear H
     go_wp2
     go_meet
     case rel => exact ⟨_, (t231), (.slice Ao36 t231.length co36), H', ⟨by have := HJ5.out; first | omega | exact Nat.le_refl _⟩, ⟨zr HO233⟩, ⟨zs HO236⟩, ⟨zk BK225⟩, ⟨zk BK226⟩, ⟨zk BK237⟩, ⟨zb HB⟩⟩
   rw [if_pos c43] at H
   have c43b0 : decide (0 < (rd ((rd_T38 t234 t227).f1) a2)) = true := decide_eq_true c43
   clear c43
   (first | rw [c43b0] | (simp only [i64_w, i32_w]; rw [c43b0]) | skip)
   replace H := obs H
   obtain ⟨t240, A440, H⟩ := H
   replace H : (spec_l11Write.j1 kj5 a2 a3 t227 l0_0 l0_1 t240 t234) = some (r1, r2, r3) := H
   have A44 := am A440
   clear A440
   have H' := am H
   clear H
   have hnb45 := NB237_225.out
   have hnc45 := NB225_237.out
   have hnb46 := NB237_226.out
   have hnc46 := NB226_237.out
   have hcz47_0 := ce0 BK237
   have hcz47_1 := ce1 BK237
   have hfz47_0 := bfz BK237 0
   have hfz47_1 := bfz BK237 1
   go_wp2_with (first | ((with_reducible refine gate_callee (f := 96) rfl ?_); refine gl Try.func96 56 #[.slice Ao36 t231.length co36, .int .i64 (rd ((rd_T38 t234 t227).f1) a2)] rfl rfl rfl ?_; (with_reducible refine (spec_l2Drop.calls (fun k_ => some k_ = (.slice Ao36 t231.length co36 : Value).ownBlock) (.slice Ao36 t231.length co36) t231 (rd ((rd_T38 t234 t227).f1) a2) t240 w _ ?side1 ?side2 A44.out).mono ?_); (case side1 => exact zb HB); (case side2 => exact Kd.R_tight rfl HO233.out); rintro e w48 ⟨v241, rfl, ho0, hb, hkp⟩; refine ⟨_, rfl, ?_⟩; replace BK225 := am (blk_kept (zk BK225) hkp (fun hs_ => (fun e_ => (Kd.R_ne HO233.out BK225.out (by decide)) e_) hs_)); replace BK226 := am (blk_kept (zk BK226) hkp (fun hs_ => (fun e_ => (Kd.R_ne HO233.out BK226.out (by decide)) e_) hs_)); replace HO236 := am (Kd.S_mono (ok' := fun k_ => True) (Kd.S_keptB ((Kd.S_apart' HO236.out (Kd.R_typed HO233.out) (by decide))) hkp (fun k_ hk_ hs_ => (hk_.2) hs_)) (fun k_ hk_ => trivial)); replace BK237 := am (blk_kept (zk BK237) hkp (fun hs_ => (fun e_ => (Kd.R_ne HO233.out BK237.out (by decide)) e_) hs_)); have HO242 := am (Kd.R_mono (ok' := fun k_ => True) ho0 (fun k_ hk_ => trivial)); replace HB := am (hb); clear HO233 HL238_1; (try clear hb); (try clear hkp); (try clear ho0); obtain ⟨Ao49, co49, eo49⟩ := Kd.R_slice HO242.out; subst eo49; have hcz50_0 := ce0 BK237; have hcz50_1 := ce1 BK237; have hfz50_0 := bfz BK237 0; have hfz50_1 := bfz BK237 1))
   go_meet
   case rel => exact ⟨_, (t240), (.slice Ao49 t240.length co49), H', ⟨by have := HJ5.out; first | omega | exact Nat.le_refl _⟩, ⟨by (with_reducible repeat (first | apply Kd.R_alloc | apply Kd.R_drewN | apply Kd.R_drew)); exact Kd.R_mono (Kd.R_far (p := ⟨gb237, 0, none⟩) (Kd.R_types HO242.out BK237.out (by decide)) (fun _ hk => by first | exact hk.2 | trivial) (.slice Ao49 t240.length co49)) (fun _ hk => trivial)⟩, ⟨by (with_reducible repeat (first | apply Kd.S_alloc | apply Kd.S_drewN | apply Kd.S_drew)); exact Kd.S_mono (Kd.S_far (p := ⟨gb237, 0, none⟩) (Kd.S_types HO236.out BK237.out (by decide)) (fun _ hk => by first | exact hk.2 | trivial) (.slice Ao49 t240.length co49)) (fun _ hk => trivial)⟩, ⟨zk BK225⟩, ⟨zk BK226⟩, ⟨zp BK237⟩, ⟨zb HB⟩⟩
  clear HC31
  try clear c1
  try clear c2
  try clear p2
  try clear q2
  try clear hx2
  try clear c3
  try clear c4
  try clear c5
  try clear p6
  try clear c8
  try clear c9
  try clear c12
  try clear c12b0
  try clear c13
  try clear c13b0
  try clear c14
  try clear c14b0
  try clear c16
  try clear c18
  try clear c20
  try clear c22
  try clear p22
  try clear q22
  try clear hx22
  try clear c23
  try clear p23
  try clear q23
  try clear hx23
  try clear c27
  try clear c27b0
  try clear c28
  try clear c28b0
  try clear c29
  try clear c29b0
  try clear c30
  try clear c30b0
  try clear c32
  try clear c37
  try clear c38
  try clear c43
  try clear c43b0
  try clear c45
  try clear c46
  try clear hcz10_0
  try clear hcz10_1
  try clear hcz19_0
  try clear hcz19_1
  try clear hcz21_0
  try clear hcz21_1
  try clear hcz24_0
  try clear hcz24_1
  try clear hcz25_0
  try clear hcz25_1
  try clear hcz33_0
  try clear hcz33_1
  try clear hcz39_0
  try clear hcz39_1
  try clear hcz42_0
  try clear hcz42_1
  try clear hcz47_0
  try clear hcz47_1
  try clear hcz50_0
  try clear hcz50_1
  try clear hfz10_0
  try clear hfz10_1
  try clear hfz19_0
  try clear hfz19_1
  try clear hfz21_0
  try clear hfz21_1
  try clear hfz24_0
  try clear hfz24_1
  try clear hfz25_0
  try clear hfz25_1
  try clear hfz33_0
  try clear hfz33_1
  try clear hfz39_0
  try clear hfz39_1
  try clear hfz42_0
  try clear hfz42_1
  try clear hfz47_0
  try clear hfz47_1
  try clear hfz50_0
  try clear hfz50_1
  try clear hx228_0
  try clear hx228_1
  try clear hx238_0
  try clear hx238_1
  try clear hx239_0
  try clear p2
  try clear p228
  try clear p238
  try clear p239
  try clear p6
  try clear q2
  try clear q228
  try clear q238
  try clear q239
  obtain ⟨kq, x238000_30, u238000, HA, HJ30, HO_238000, HO_238001, BK225, BK226, BK237, HB⟩ := hcut
  cases kq with
  | zero => exact absurd HA.out (by simp [spec_l11Write.j1])
  | succ kj30 =>
   have H := HA.out
   clear HA
   simp only [spec_l11Write.j1] at H
   by_cases c51 : 0 ≤ t227
   rotate_left
   · rw [if_neg c51] at H
     exact absurd H (by simp)
   rw [if_pos c51] at H
   have c51b0 : decide (0 ≤ t227) = true := decide_eq_true c51
   clear c51
   by_cases c52 : t227 < (t234.length : Int)
   rotate_left
   · rw [if_neg c52] at H
     exact absurd H (by simp)
   rw [if_pos c52] at H
   have c52b0 : decide (t227 < (t234.length : Int)) = true := decide_eq_true c52
   clear c52
   by_cases c53 : 0 ≤ a2
   rotate_left
   · rw [if_neg c53] at H
     exact absurd H (by simp)
   rw [if_pos c53] at H
   have c53b0 : decide (0 ≤ a2) = true := decide_eq_true c53
   clear c53
   by_cases c54 : a2 < (((rd_T38 t234 t227).f1).length : Int)
   rotate_left
   · rw [if_neg c54] at H
     exact absurd H (by simp)
   rw [if_pos c54] at H
   have c54b0 : decide (a2 < (((rd_T38 t234 t227).f1).length : Int)) = true := decide_eq_true c54
   clear c54
   obtain ⟨y244, hy244⟩ : ∃ y_ : List Int, y_ = (((rd_T38 t234 t227).f1).set (a2 : Int).toNat 0) := ⟨_, rfl⟩
   replace H : ((some (t234.set (t227 : Int).toNat (⟨(rd_T38 t234 t227).f0, y244⟩ : S38) : List (S38))).bind fun y246 => (if a3.toList = ([] : List UInt8) then (some (x238000_30, y246, true)) else ((spec_l2Put.f kj30 x238000_30 a3).bind fun bt247 => (if bt247.2.2 = true then (if a2 < (((rd_T38 y246 t227).f1).length : Int) then (some (bt247.1, (y246.set (t227 : Int).toNat (⟨(rd_T38 y246 t227).f0, (((rd_T38 y246 t227).f1).set (a2 : Int).toNat bt247.2.1)⟩ : S38)), true)) else (none)) else (some (l0_0, l0_1, false)))))) = some (r1, r2, r3) := hY hy244 H
   have Ny244 := am hy244
   clear hy244
   obtain ⟨y246, hy246⟩ : ∃ y_ : List (S38), y_ = (t234.set (t227 : Int).toNat (⟨(rd_T38 t234 t227).f0, y244⟩ : S38)) := ⟨_, rfl⟩
   replace H : (if a3.toList = ([] : List UInt8) then (some (x238000_30, y246, true)) else ((spec_l2Put.f kj30 x238000_30 a3).bind fun bt247 => (if bt247.2.2 = true then (if a2 < (((rd_T38 y246 t227).f1).length : Int) then (some (bt247.1, (y246.set (t227 : Int).toNat (⟨(rd_T38 y246 t227).f0, (((rd_T38 y246 t227).f1).set (a2 : Int).toNat bt247.2.1)⟩ : S38)), true)) else (none)) else (some (l0_0, l0_1, false))))) = some (r1, r2, r3) := hY hy246 H
   have Ny246 := am hy246
   clear hy246
   by_cases c56 : a3.toList = ([] : List UInt8)
   · rw [if_pos c56] at H
     have c56b0 : (a3.toList == ([] : List UInt8)) = true := beq_iff_eq.mpr c56
     have c56b1 : (a3.toList != ([] : List UInt8)) = false := bne_eq_false_iff_eq.mpr c56
     clear c56
     simp only [Option.some.injEq, Prod.mk.injEq] at H
     obtain ⟨rfl, rfl, rfl⟩ := H
     have hnb57 := NB237_225.out
     have hnc57 := NB225_237.out
     have hnb58 := NB237_226.out
     have hnc58 := NB226_237.out
     have hcz59_0 := ce0 BK237
     have hcz59_1 := ce1 BK237
     have hfz59_0 := bfz BK237 0
     have hfz59_1 := bfz BK237 1
     have p243 : 0 ≤ (t227 : Int) := of_decide_eq_true zl
     have q243 : t227 < (t234.length : Int) := of_decide_eq_true zl
     obtain ⟨ad243, A243_1, c243_1, e243, hx243_0, hx243_1, hl243_1, hi243_1⟩ := at_T38 (Kd.S_reads' HO_238001.out).2.2 t227 p243 q243
     obtain rfl : ad238 = ad243 := (by injection e243)
     obtain ⟨ce243, hce243, hMe243, hcc243⟩ := Kd.S_get HO_238001.out z38 t227 p243 (by first | exact q243 | exact of_decide_eq_true zl | (have e_ := (Kd.S_reads' HO_238001.out).1; omega))
     obtain ⟨ve243_1, rfl, ge243_1⟩ := k38_openM hMe243
     have hv243_1 := hcc243 1 _ rfl
     rw [add_field _ _ 1 (by omega)] at hv243_1
     replace hv243_1 := Option.some.inj (hv243_1.symm.trans hx243_1)
     rw [hv243_1] at ge243_1
     have HL243_1 := am (show Kd.R (Kd.int .i64) 3 _ _ _ _ ((rd_T38 t234 t227).f1) from ge243_1)
     clear hv243_1 ge243_1
     have HX243_1 := am hx243_1
     clear hcc243 hce243
     have HR243_1 := am hi243_1
     have HC243_1 := am hl243_1
     clear hi243_1 hl243_1
     replace p243 := eq_true p243
     replace q243 := eq_true q243
     have p55 : 0 ≤ (a2 : Int) := of_decide_eq_true zl
     have q55 : (a2 : Int) < ((((rd_T38 t234 t227).f1).length : Int) : Int) := of_decide_eq_true zl
     obtain ⟨go55, co55, eo55, gb55, gl55, cl55, HG55⟩ := Kd.R_form HL243_1.out (by omega)
     (first | cases eo55 | (injection eo55 with ea_ en_ ec_; (first | subst ea_ | (injection ea_ with ea_; subst ea_)); subst ec_; clear en_))
     have GB55 := am gb55
     have GG55 := am HG55
     clear gb55 gl55 HG55
     obtain ⟨hx55_0, hf55_0⟩ := Kd.R_celln 0 HL243_1.out (a2 : Int) p55 q55
     replace p55 := eq_true p55
     replace q55 := eq_true q55
     have hq60 : (t227 : Int) < (t234.length : Int) := (by have h_ : (t227 : Int) < ((t234.length : Int) : Int) := of_decide_eq_true zl; first | exact h_ | (have e_ := (Kd.S_reads' HO_238001.out).1; omega) | simpa only [List.length_set, List.length_set] using h_)
     obtain ⟨oki60, ce60, hcl60, hM60, hcc60, hok60, hbk60⟩ := Kd.S_borrow HO_238001.out z38 (t227 : Int) (of_decide_eq_true zl) (by first | exact hq60 | (have e_ := (Kd.S_reads' HO_238001.out).1; have h_ := hq60; omega))
     obtain ⟨ve60_1, rfl, ge60_1⟩ := k38_openM hM60
     have hv60 := hcc60 1 _ rfl
     rw [add_field _ _ 1 (by omega)] at hv60
     replace hv60 := Option.some.inj (hv60.symm.trans HX243_1.out)
     subst hv60
     clear hcc60 hcl60
     replace ge60_1 := (show Kd.R (Kd.int .i64) 3 _ _ _ _ ((rd_T38 t234 t227).f1) from ge60_1)
     have HP60 := Kd.R_putg ge60_1 (a2 : Int) 0
     go_wp2_with (first | ((with_reducible refine gate_store (t := 3) (p := 65) rfl ?_); refine store_event (t := 3) (p := 65) (v := ?vo_w61) (w1 := (wc.setCell ⟨go55, (a2 : Int).toNat, none⟩ (.int .i64 0))) ?hg ?ho ?hn ?hr ?_; (case ho => rfl); (case hg => rfl); (case hn => rfl); (case hr => first | (go_simp; done) | (go_simp; rfl)); intro w61 hw; have hg : wc.grownBy w61 (some go55) := (by rw [hw]; exact HP60.2); have hz_ : Kd.R (Kd.int .i64) 3 w61 w.heap.size oki60 (.slice (some ⟨go55, 0, none⟩) ((rd_T38 t234 t227).f1).length c243_1) y244 := (by rw [hw, Ny244.out]; exact HP60.1); have hp_ : Kd.S k38 38 w61 w.heap.size (fun _ => True) (.slice (some ad238) t234.length co40) y246 := (by rw [Ny246.out]; exact hbk60 hg (fun k_ e_ => by injection e_ with e_; subst e_; exact ge60_1.1 _ rfl) (k38_mkM _ _ _ (⟨(rd_T38 t234 t227).f0, y244⟩ : S38) hz_)); have hm_ := Kd.R_mono hz_ hok60; clear HP60 hbk60; replace HO_238000 := am (Kd.R_over' (v := (.slice (some ⟨go55, 0, none⟩) ((rd_T38 t234 t227).f1).length c243_1)) (zr HO_238000) (Kd.R_typed HL243_1.out) (by decide) hg); replace HO_238001 := am (hp_); replace BK225 := am (blk_grown (zk BK225) hg (Kd.R_ne HL243_1.out BK225.out (by decide))); replace BK226 := am (blk_grown (zk BK226) hg (Kd.R_ne HL243_1.out BK226.out (by decide))); replace BK237 := am (blk_grown (zk BK237) hg (Kd.R_ne HL243_1.out BK237.out (by decide))); replace HB := am ((by rw [hw]; exact below_set (HB.out) GB55.out : Below w.heap.size w w61)); have HL256 := am (hm_); have HC245 := am ((Kd.R_reads' hm_).2.1); clear HL243_1; clear hg hw hp_ hz_ hm_ hok60; have hcz62_0 := ce0 BK237; have hcz62_1 := ce1 BK237; have hfz62_0 := bfz BK237 0; have hfz62_1 := bfz BK237 1; obtain ⟨Ao63, co63, eo63⟩ := Kd.R_slice HO_238000.out; subst eo63; have hnb64 := NB226_225.out; have hnc64 := NB225_226.out; have hcz65_0 := ce0 BK226; have hcz65_1 := ce1 BK226; have hfz65_0 := bfz BK226 0; have hfz65_1 := bfz BK226 1))
     refine bodyPost_ret (results_ct rfl _ _ gb226 31 #[.slice Ao63 x238000_30.length co63, .slice (some ad238) t234.length co40] (0, 0) _ rfl (zp BK226) Try.underlying31 rfl (by kernel_rfl)) rfl ?_
     exact ⟨_, _, zw, (Kd.R_lower (base := w.heap.size) (by (with_reducible repeat (first | apply Kd.R_alloc | apply Kd.R_drewN | apply Kd.R_drew)); exact Kd.R_mono (Kd.R_far (p := ⟨gb226, 1, none⟩) (Kd.R_far (p := ⟨gb226, 0, none⟩) (Kd.R_types HO_238000.out BK226.out (by decide)) (fun _ hk => hk.2) (.slice Ao63 x238000_30.length co63)) (fun _ hk => hk.2) (.slice (some ad238) t234.length co40)) (fun _ hk => trivial)) hb_), (Kd.S_lower (base := w.heap.size) (by (with_reducible repeat (first | apply Kd.S_alloc | apply Kd.S_drewN | apply Kd.S_drew)); exact Kd.S_mono (Kd.S_far (p := ⟨gb226, 1, none⟩) (Kd.S_far (p := ⟨gb226, 0, none⟩) (Kd.S_types HO_238001.out BK226.out (by decide)) (fun _ hk => hk.2) (.slice Ao63 x238000_30.length co63)) (fun _ hk => hk.2) (.slice (some ad238) t234.length co40)) (fun _ hk => trivial)) hb_), (zb HB)⟩
   rw [if_neg c56] at H
   have c56b0 : (a3.toList == ([] : List UInt8)) = false := beq_eq_false_iff_ne.mpr c56
   have c56b1 : (a3.toList != ([] : List UInt8)) = true := bne_iff_ne.mpr c56
   replace H := obs H
   obtain ⟨⟨t247, t250, t251⟩, A660, H⟩ := H
   replace H : (if t251 = true then (if a2 < (((rd_T38 y246 t227).f1).length : Int) then (some (t247, (y246.set (t227 : Int).toNat (⟨(rd_T38 y246 t227).f0, (((rd_T38 y246 t227).f1).set (a2 : Int).toNat t250)⟩ : S38)), true)) else (none)) else (some (l0_0, l0_1, false))) = some (r1, r2, r3) := H
   have A66 := am A660
   clear A660
   by_cases c67 : t251 = true
   rotate_left
   · replace c67 := Bool.eq_false_iff.mpr c67
     subst c67
     have H1 : (some (l0_0, l0_1, false)) = some (r1, r2, r3) := by rw [if_neg (show ¬ (false = true) by decide)] at H; exact H
     clear H
     have H := H1
     clear H1
     simp only [Option.some.injEq, Prod.mk.injEq] at H
     obtain ⟨rfl, rfl, rfl⟩ := H
     have hnb87 := NB237_225.out
     have hnc87 := NB225_237.out
     have hnb88 := NB237_226.out
     have hnc88 := NB226_237.out
     have hcz89_0 := ce0 BK237
     have hcz89_1 := ce1 BK237
     have hfz89_0 := bfz BK237 0
     have hfz89_1 := bfz BK237 1
     have p243 : 0 ≤ (t227 : Int) := of_decide_eq_true zl
     have q243 : t227 < (t234.length : Int) := of_decide_eq_true zl
     obtain ⟨ad243, A243_1, c243_1, e243, hx243_0, hx243_1, hl243_1, hi243_1⟩ := at_T38 (Kd.S_reads' HO_238001.out).2.2 t227 p243 q243
     obtain rfl : ad238 = ad243 := (by injection e243)
     obtain ⟨ce243, hce243, hMe243, hcc243⟩ := Kd.S_get HO_238001.out z38 t227 p243 (by first | exact q243 | exact of_decide_eq_true zl | (have e_ := (Kd.S_reads' HO_238001.out).1; omega))
     obtain ⟨ve243_1, rfl, ge243_1⟩ := k38_openM hMe243
     have hv243_1 := hcc243 1 _ rfl
     rw [add_field _ _ 1 (by omega)] at hv243_1
     replace hv243_1 := Option.some.inj (hv243_1.symm.trans hx243_1)
     rw [hv243_1] at ge243_1
     have HL243_1 := am (show Kd.R (Kd.int .i64) 3 _ _ _ _ ((rd_T38 t234 t227).f1) from ge243_1)
     clear hv243_1 ge243_1
     have HX243_1 := am hx243_1
     clear hcc243 hce243
     have HR243_1 := am hi243_1
     have HC243_1 := am hl243_1
     clear hi243_1 hl243_1
     replace p243 := eq_true p243
     replace q243 := eq_true q243
     have p55 : 0 ≤ (a2 : Int) := of_decide_eq_true zl
     have q55 : (a2 : Int) < ((((rd_T38 t234 t227).f1).length : Int) : Int) := of_decide_eq_true zl
     obtain ⟨go55, co55, eo55, gb55, gl55, cl55, HG55⟩ := Kd.R_form HL243_1.out (by omega)
     (first | cases eo55 | (injection eo55 with ea_ en_ ec_; (first | subst ea_ | (injection ea_ with ea_; subst ea_)); subst ec_; clear en_))
     have GB55 := am gb55
     have GG55 := am HG55
     clear gb55 gl55 HG55
     obtain ⟨hx55_0, hf55_0⟩ := Kd.R_celln 0 HL243_1.out (a2 : Int) p55 q55
     replace p55 := eq_true p55
     replace q55 := eq_true q55
     have hq90 : (t227 : Int) < (t234.length : Int) := (by have h_ : (t227 : Int) < ((t234.length : Int) : Int) := of_decide_eq_true zl; first | exact h_ | (have e_ := (Kd.S_reads' HO_238001.out).1; omega) | simpa only [List.length_set, List.length_set] using h_)
     obtain ⟨oki90, ce90, hcl90, hM90, hcc90, hok90, hbk90⟩ := Kd.S_borrow HO_238001.out z38 (t227 : Int) (of_decide_eq_true zl) (by first | exact hq90 | (have e_ := (Kd.S_reads' HO_238001.out).1; have h_ := hq90; omega))
     obtain ⟨ve90_1, rfl, ge90_1⟩ := k38_openM hM90
     have hv90 := hcc90 1 _ rfl
     rw [add_field _ _ 1 (by omega)] at hv90
     replace hv90 := Option.some.inj (hv90.symm.trans HX243_1.out)
     subst hv90
     clear hcc90 hcl90
     replace ge90_1 := (show Kd.R (Kd.int .i64) 3 _ _ _ _ ((rd_T38 t234 t227).f1) from ge90_1)
     have HP90 := Kd.R_putg ge90_1 (a2 : Int) 0
     go_wp2_with (first | ((with_reducible refine gate_store (t := 3) (p := 65) rfl ?_); refine store_event (t := 3) (p := 65) (v := ?vo_w91) (w1 := (wc.setCell ⟨go55, (a2 : Int).toNat, none⟩ (.int .i64 0))) ?hg ?ho ?hn ?hr ?_; (case ho => rfl); (case hg => rfl); (case hn => rfl); (case hr => first | (go_simp; done) | (go_simp; rfl)); intro w91 hw; have hg : wc.grownBy w91 (some go55) := (by rw [hw]; exact HP90.2); have hz_ : Kd.R (Kd.int .i64) 3 w91 w.heap.size oki90 (.slice (some ⟨go55, 0, none⟩) ((rd_T38 t234 t227).f1).length c243_1) y244 := (by rw [hw, Ny244.out]; exact HP90.1); have hp_ : Kd.S k38 38 w91 w.heap.size (fun _ => True) (.slice (some ad238) t234.length co40) y246 := (by rw [Ny246.out]; exact hbk90 hg (fun k_ e_ => by injection e_ with e_; subst e_; exact ge90_1.1 _ rfl) (k38_mkM _ _ _ (⟨(rd_T38 t234 t227).f0, y244⟩ : S38) hz_)); have hm_ := Kd.R_mono hz_ hok90; clear HP90 hbk90; replace HO_238000 := am (Kd.R_over' (v := (.slice (some ⟨go55, 0, none⟩) ((rd_T38 t234 t227).f1).length c243_1)) (zr HO_238000) (Kd.R_typed HL243_1.out) (by decide) hg); replace HO_238001 := am (hp_); replace BK225 := am (blk_grown (zk BK225) hg (Kd.R_ne HL243_1.out BK225.out (by decide))); replace BK226 := am (blk_grown (zk BK226) hg (Kd.R_ne HL243_1.out BK226.out (by decide))); replace BK237 := am (blk_grown (zk BK237) hg (Kd.R_ne HL243_1.out BK237.out (by decide))); replace HB := am ((by rw [hw]; exact below_set (HB.out) GB55.out : Below w.heap.size w w91)); have HL259 := am (hm_); have HC245 := am ((Kd.R_reads' hm_).2.1); clear HL243_1; clear hg hw hp_ hz_ hm_ hok90; have hcz92_0 := ce0 BK237; have hcz92_1 := ce1 BK237; have hfz92_0 := bfz BK237 0; have hfz92_1 := bfz BK237 1; obtain ⟨Ao93, co93, eo93⟩ := Kd.R_slice HO_238000.out; subst eo93) | ((with_reducible refine gate_callee (f := 97) rfl ?_); refine gl Try.func97 73 #[.slice Ao93 x238000_30.length co93, .string a3] rfl rfl rfl ?_; (with_reducible refine (spec_l2Put.calls kj30 (fun k_ => some k_ = (.slice Ao93 x238000_30.length co93 : Value).ownBlock) (.slice Ao93 x238000_30.length co93) x238000_30 a3 t247 t250 false w _ ?side1 ?side2 A66.out).mono ?_); (case side1 => exact zb HB); (case side2 => exact Kd.R_tight rfl HO_238000.out); rintro e w94 ⟨v248, rfl, ho0, hb, hkp⟩; refine ⟨_, rfl, ?_⟩; replace HO_238001 := am (Kd.S_mono (ok' := fun k_ => True) (Kd.S_keptB ((Kd.S_apart' HO_238001.out (Kd.R_typed HO_238000.out) (by decide))) hkp (fun k_ hk_ hs_ => (hk_.2) hs_)) (fun k_ hk_ => trivial)); replace BK225 := am (blk_kept (zk BK225) hkp (fun hs_ => (fun e_ => (Kd.R_ne HO_238000.out BK225.out (by decide)) e_) hs_)); replace BK226 := am (blk_kept (zk BK226) hkp (fun hs_ => (fun e_ => (Kd.R_ne HO_238000.out BK226.out (by decide)) e_) hs_)); replace BK237 := am (blk_kept (zk BK237) hkp (fun hs_ => (fun e_ => (Kd.R_ne HO_238000.out BK237.out (by decide)) e_) hs_)); have HO249 := am (Kd.R_mono (ok' := fun k_ => True) ho0 (fun k_ hk_ => trivial)); replace HB := am (hb); clear HO_238000 HL259; (try clear hb); (try clear hkp); (try clear ho0); have hnb95 := NB225_226.out; have hnc95 := NB226_225.out; have hcz96_0 := ce0 BK225; have hcz96_1 := ce1 BK225; have hfz96_0 := bfz BK225 0; have hfz96_1 := bfz BK225 1; have hcz97_0 := ce0 BK226; have hcz97_1 := ce1 BK226; have hfz97_0 := bfz BK226 0; have hfz97_1 := bfz BK226 1))
     refine bodyPost_ret (results_ct rfl _ _ gb226 31 #[.slice A0_0 l0_0.length c0_0, .slice A0_1 l0_1.length c0_1] (0, 0) _ rfl (zp BK226) Try.underlying31 rfl (by kernel_rfl)) rfl ?_
     exact ⟨_, _, zw, (Kd.R_below hq0_0 (zb HB)), (Kd.S_below hq0_1 (zb HB)), (zb HB)⟩
   subst c67
   have H1 : (if a2 < (((rd_T38 y246 t227).f1).length : Int) then (some (t247, (y246.set (t227 : Int).toNat (⟨(rd_T38 y246 t227).f0, (((rd_T38 y246 t227).f1).set (a2 : Int).toNat t250)⟩ : S38)), true)) else (none)) = some (r1, r2, r3) := by rw [if_pos rfl] at H; exact H
   clear H
   have H := H1
   clear H1
   by_cases c68 : a2 < (((rd_T38 y246 t227).f1).length : Int)
   rotate_left
   · rw [if_neg c68] at H
     exact absurd H (by simp)
   rw [if_pos c68] at H
   have c68b0 : decide (a2 < (((rd_T38 y246 t227).f1).length : Int)) = true := decide_eq_true c68
   clear c68
   obtain ⟨y253, hy253⟩ : ∃ y_ : List Int, y_ = (((rd_T38 y246 t227).f1).set (a2 : Int).toNat t250) := ⟨_, rfl⟩
   replace H : (some (t247, (y246.set (t227 : Int).toNat (⟨(rd_T38 y246 t227).f0, y253⟩ : S38)), true)) = some (r1, r2, r3) := hY hy253 H
   have Ny253 := am hy253
   clear hy253
   obtain ⟨y255, hy255⟩ : ∃ y_ : List (S38), y_ = (y246.set (t227 : Int).toNat (⟨(rd_T38 y246 t227).f0, y253⟩ : S38)) := ⟨_, rfl⟩
   replace H : (some (t247, y255, true)) = some (r1, r2, r3) := hY hy255 H
   have Ny255 := am hy255
   clear hy255
   simp only [Option.some.injEq, Prod.mk.injEq] at H
   obtain ⟨rfl, rfl, rfl⟩ := H
   have hnb70 := NB237_225.out
   have hnc70 := NB225_237.out
   have hnb71 := NB237_226.out
   have hnc71 := NB226_237.out
   have hcz72_0 := ce0 BK237
   have hcz72_1 := ce1 BK237
   have hfz72_0 := bfz BK237 0
   have hfz72_1 := bfz BK237 1
   have p243 : 0 ≤ (t227 : Int) := of_decide_eq_true zl
   have q243 : t227 < (t234.length : Int) := of_decide_eq_true zl
   obtain ⟨ad243, A243_1, c243_1, e243, hx243_0, hx243_1, hl243_1, hi243_1⟩ := at_T38 (Kd.S_reads' HO_238001.out).2.2 t227 p243 q243
   obtain rfl : ad238 = ad243 := (by injection e243)
   obtain ⟨ce243, hce243, hMe243, hcc243⟩ := Kd.S_get HO_238001.out z38 t227 p243 (by first | exact q243 | exact of_decide_eq_true zl | (have e_ := (Kd.S_reads' HO_238001.out).1; omega))
   obtain ⟨ve243_1, rfl, ge243_1⟩ := k38_openM hMe243
   have hv243_1 := hcc243 1 _ rfl
   rw [add_field _ _ 1 (by omega)] at hv243_1
   replace hv243_1 := Option.some.inj (hv243_1.symm.trans hx243_1)
   rw [hv243_1] at ge243_1
   have HL243_1 := am (show Kd.R (Kd.int .i64) 3 _ _ _ _ ((rd_T38 t234 t227).f1) from ge243_1)
   clear hv243_1 ge243_1
   have HX243_1 := am hx243_1
   clear hcc243 hce243
   have HR243_1 := am hi243_1
   have HC243_1 := am hl243_1
   clear hi243_1 hl243_1
   replace p243 := eq_true p243
   replace q243 := eq_true q243
   have p55 : 0 ≤ (a2 : Int) := of_decide_eq_true zl
   have q55 : (a2 : Int) < ((((rd_T38 t234 t227).f1).length : Int) : Int) := of_decide_eq_true zl
   obtain ⟨go55, co55, eo55, gb55, gl55, cl55, HG55⟩ := Kd.R_form HL243_1.out (by omega)
   (first | cases eo55 | (injection eo55 with ea_ en_ ec_; (first | subst ea_ | (injection ea_ with ea_; subst ea_)); subst ec_; clear en_))
   have GB55 := am gb55
   have GG55 := am HG55
   clear gb55 gl55 HG55
   obtain ⟨hx55_0, hf55_0⟩ := Kd.R_celln 0 HL243_1.out (a2 : Int) p55 q55
   replace p55 := eq_true p55
   replace q55 := eq_true q55
   have hq73 : (t227 : Int) < (t234.length : Int) := (by have h_ : (t227 : Int) < ((t234.length : Int) : Int) := of_decide_eq_true zl; first | exact h_ | (have e_ := (Kd.S_reads' HO_238001.out).1; omega) | simpa only [List.length_set, List.length_set] using h_)
   obtain ⟨oki73, ce73, hcl73, hM73, hcc73, hok73, hbk73⟩ := Kd.S_borrow HO_238001.out z38 (t227 : Int) (of_decide_eq_true zl) (by first | exact hq73 | (have e_ := (Kd.S_reads' HO_238001.out).1; have h_ := hq73; omega))
   obtain ⟨ve73_1, rfl, ge73_1⟩ := k38_openM hM73
   have hv73 := hcc73 1 _ rfl
   rw [add_field _ _ 1 (by omega)] at hv73
   replace hv73 := Option.some.inj (hv73.symm.trans HX243_1.out)
   subst hv73
   clear hcc73 hcl73
   replace ge73_1 := (show Kd.R (Kd.int .i64) 3 _ _ _ _ ((rd_T38 t234 t227).f1) from ge73_1)
   have HP73 := Kd.R_putg ge73_1 (a2 : Int) 0
   go_wp2_with (first | ((with_reducible refine gate_store (t := 3) (p := 65) rfl ?_); refine store_event (t := 3) (p := 65) (v := ?vo_w74) (w1 := (wc.setCell ⟨go55, (a2 : Int).toNat, none⟩ (.int .i64 0))) ?hg ?ho ?hn ?hr ?_; (case ho => rfl); (case hg => rfl); (case hn => rfl); (case hr => first | (go_simp; done) | (go_simp; rfl)); intro w74 hw; have hg : wc.grownBy w74 (some go55) := (by rw [hw]; exact HP73.2); have hz_ : Kd.R (Kd.int .i64) 3 w74 w.heap.size oki73 (.slice (some ⟨go55, 0, none⟩) ((rd_T38 t234 t227).f1).length c243_1) y244 := (by rw [hw, Ny244.out]; exact HP73.1); have hp_ : Kd.S k38 38 w74 w.heap.size (fun _ => True) (.slice (some ad238) t234.length co40) y246 := (by rw [Ny246.out]; exact hbk73 hg (fun k_ e_ => by injection e_ with e_; subst e_; exact ge73_1.1 _ rfl) (k38_mkM _ _ _ (⟨(rd_T38 t234 t227).f0, y244⟩ : S38) hz_)); have hm_ := Kd.R_mono hz_ hok73; clear HP73 hbk73; replace HO_238000 := am (Kd.R_over' (v := (.slice (some ⟨go55, 0, none⟩) ((rd_T38 t234 t227).f1).length c243_1)) (zr HO_238000) (Kd.R_typed HL243_1.out) (by decide) hg); replace HO_238001 := am (hp_); replace BK225 := am (blk_grown (zk BK225) hg (Kd.R_ne HL243_1.out BK225.out (by decide))); replace BK226 := am (blk_grown (zk BK226) hg (Kd.R_ne HL243_1.out BK226.out (by decide))); replace BK237 := am (blk_grown (zk BK237) hg (Kd.R_ne HL243_1.out BK237.out (by decide))); replace HB := am ((by rw [hw]; exact below_set (HB.out) GB55.out : Below w.heap.size w w74)); have HL257 := am (hm_); have HC245 := am ((Kd.R_reads' hm_).2.1); clear HL243_1; clear hg hw hp_ hz_ hm_ hok73; have hcz75_0 := ce0 BK237; have hcz75_1 := ce1 BK237; have hfz75_0 := bfz BK237 0; have hfz75_1 := bfz BK237 1; obtain ⟨Ao76, co76, eo76⟩ := Kd.R_slice HO_238000.out; subst eo76) | ((with_reducible refine gate_callee (f := 97) rfl ?_); refine gl Try.func97 73 #[.slice Ao76 x238000_30.length co76, .string a3] rfl rfl rfl ?_; (with_reducible refine (spec_l2Put.calls kj30 (fun k_ => some k_ = (.slice Ao76 x238000_30.length co76 : Value).ownBlock) (.slice Ao76 x238000_30.length co76) x238000_30 a3 t247 t250 true w _ ?side1 ?side2 A66.out).mono ?_); (case side1 => exact zb HB); (case side2 => exact Kd.R_tight rfl HO_238000.out); rintro e w77 ⟨v248, rfl, ho0, hb, hkp⟩; refine ⟨_, rfl, ?_⟩; replace HO_238001 := am (Kd.S_mono (ok' := fun k_ => True) (Kd.S_keptB ((Kd.S_apart' HO_238001.out (Kd.R_typed HO_238000.out) (by decide))) hkp (fun k_ hk_ hs_ => (hk_.2) hs_)) (fun k_ hk_ => trivial)); replace BK225 := am (blk_kept (zk BK225) hkp (fun hs_ => (fun e_ => (Kd.R_ne HO_238000.out BK225.out (by decide)) e_) hs_)); replace BK226 := am (blk_kept (zk BK226) hkp (fun hs_ => (fun e_ => (Kd.R_ne HO_238000.out BK226.out (by decide)) e_) hs_)); replace BK237 := am (blk_kept (zk BK237) hkp (fun hs_ => (fun e_ => (Kd.R_ne HO_238000.out BK237.out (by decide)) e_) hs_)); have HO249 := am (Kd.R_mono (ok' := fun k_ => True) ho0 (fun k_ hk_ => trivial)); replace HB := am (hb); clear HO_238000 HL257; (try clear hb); (try clear hkp); (try clear ho0); obtain ⟨Ao78, co78, eo78⟩ := Kd.R_slice HO249.out; subst eo78; have hcz79_0 := ce0 BK237; have hcz79_1 := ce1 BK237; have hfz79_0 := bfz BK237 0; have hfz79_1 := bfz BK237 1) | ((with_reducible refine gate_store (t := 28) (p := 81) rfl ?_); refine store_event (t := 28) (p := 81) (v := ?vo_w80) (w1 := (w77.setCell ⟨gb237, 0, none⟩ (.slice Ao78 t247.length co78))) ?hg ?ho ?hn ?hr ?_; (case ho => rfl); (case hg => rfl); (case hn => rfl); (case hr => first | (go_simp; done) | (go_simp; rfl)); intro w80 hw; replace HO_238001 : Aside0 (Kd.S k38 38 w80 w.heap.size (fun _ => True) (.slice (some ad238) t234.length co40) y246) := ⟨(by rw [hw]; exact (by (with_reducible repeat (first | apply Kd.S_alloc | apply Kd.S_drewN | apply Kd.S_drew)); exact Kd.S_mono (Kd.S_far (p := ⟨gb237, 0, none⟩) (Kd.S_types HO_238001.out BK237.out (by decide)) (fun _ hk => hk.2) (.slice Ao78 t247.length co78)) (fun _ hk => trivial)))⟩; replace HO249 : Aside0 (Kd.R k55 55 w80 w.heap.size (fun _ => True) (.slice Ao78 t247.length co78) t247) := ⟨(by rw [hw]; exact (by (with_reducible repeat (first | apply Kd.R_alloc | apply Kd.R_drewN | apply Kd.R_drew)); exact Kd.R_mono (Kd.R_far (p := ⟨gb237, 0, none⟩) (Kd.R_types HO249.out BK237.out (by decide)) (fun _ hk => hk.2) (.slice Ao78 t247.length co78)) (fun _ hk => trivial)))⟩; replace BK225 : Aside0 (w80.heap[gb225]? = some (.cells #[.slice A0_0 l0_0.length c0_0, .slice A0_1 l0_1.length c0_1] 31 (0, 0))) := ⟨(by rw [hw]; exact (zk BK225))⟩; replace BK226 : Aside0 (w80.heap[gb226]? = some (.cells #[.slice none 0 0, .slice none 0 0] 31 (0, 0))) := ⟨(by rw [hw]; exact (zk BK226))⟩; replace BK237 : Aside0 (w80.heap[gb237]? = some (.cells #[.slice Ao78 t247.length co78, .slice (some ad238) t234.length co40] 31 (0, 0))) := ⟨(by rw [hw]; exact (zp BK237))⟩; replace HB : Aside0 (Below w.heap.size w w80) := ⟨(by rw [hw]; exact (zb HB))⟩; clear hw; have hcz81_0 := ce0 BK237; have hcz81_1 := ce1 BK237; have hfz81_0 := bfz BK237 0; have hfz81_1 := bfz BK237 1; have p252 : 0 ≤ (t227 : Int) := of_decide_eq_true zl; have q252 : t227 < (y246.length : Int) := (by have h_ : (t227 : Int) < ((t234.length : Int) : Int) := of_decide_eq_true zl; first | (have e_ := (Kd.S_reads' HO_238001.out).1; omega) | simpa only [Ny246.out, List.length_set] using h_); have ql252 : ((t227 : Int) < ((t234.length : Int) : Int)) = True := eq_true (of_decide_eq_true zl); obtain ⟨ad252, A252_1, c252_1, e252, hx252_0, hx252_1, hl252_1, hi252_1⟩ := at_T38 (Kd.S_reads' HO_238001.out).2.2 t227 p252 q252; obtain rfl : ad238 = ad252 := (by injection e252); obtain ⟨ce252, hce252, hMe252, hcc252⟩ := Kd.S_get HO_238001.out z38 t227 p252 (by first | exact q252 | exact of_decide_eq_true zl | (have e_ := (Kd.S_reads' HO_238001.out).1; omega)); obtain ⟨ve252_1, rfl, ge252_1⟩ := k38_openM hMe252; have hv252_1 := hcc252 1 _ rfl; rw [add_field _ _ 1 (by omega)] at hv252_1; replace hv252_1 := Option.some.inj (hv252_1.symm.trans hx252_1); rw [hv252_1] at ge252_1; have HL252_1 := am (show Kd.R (Kd.int .i64) 3 _ _ _ _ ((rd_T38 y246 t227).f1) from ge252_1); clear hv252_1 ge252_1; have HX252_1 := am hx252_1; clear hcc252 hce252; have HR252_1 := am hi252_1; have HC252_1 := am hl252_1; clear hi252_1 hl252_1; replace p252 := eq_true p252; replace q252 := eq_true q252; have p69 : 0 ≤ (a2 : Int) := of_decide_eq_true zl; have q69 : (a2 : Int) < ((((rd_T38 y246 t227).f1).length : Int) : Int) := of_decide_eq_true zl; obtain ⟨go69, co69, eo69, gb69, gl69, cl69, HG69⟩ := Kd.R_form HL252_1.out (by omega); (first | cases eo69 | (injection eo69 with ea_ en_ ec_; (first | subst ea_ | (injection ea_ with ea_; subst ea_)); subst ec_; clear en_)); have GB69 := am gb69; have GG69 := am HG69; clear gb69 gl69 HG69; obtain ⟨hx69_0, hf69_0⟩ := Kd.R_celln 0 HL252_1.out (a2 : Int) p69 q69; replace p69 := eq_true p69; replace q69 := eq_true q69; have hq82 : (t227 : Int) < (y246.length : Int) := (by have h_ : (t227 : Int) < ((t234.length : Int) : Int) := of_decide_eq_true zl; first | exact h_ | (have e_ := (Kd.S_reads' HO_238001.out).1; omega) | simpa only [Ny246.out, List.length_set] using h_); obtain ⟨oki82, ce82, hcl82, hM82, hcc82, hok82, hbk82⟩ := Kd.S_borrow HO_238001.out z38 (t227 : Int) (of_decide_eq_true zl) (by first | exact hq82 | (have e_ := (Kd.S_reads' HO_238001.out).1; have h_ := hq82; omega)); obtain ⟨ve82_1, rfl, ge82_1⟩ := k38_openM hM82; have hv82 := hcc82 1 _ rfl; rw [add_field _ _ 1 (by omega)] at hv82; replace hv82 := Option.some.inj (hv82.symm.trans HX252_1.out); subst hv82; clear hcc82 hcl82; replace ge82_1 := (show Kd.R (Kd.int .i64) 3 _ _ _ _ ((rd_T38 y246 t227).f1) from ge82_1); have HP82 := Kd.R_putg ge82_1 (a2 : Int) t250) | ((with_reducible refine gate_store (t := 3) (p := 90) rfl ?_); refine store_event (t := 3) (p := 90) (v := ?vo_w83) (w1 := (w80.setCell ⟨go69, (a2 : Int).toNat, none⟩ (.int .i64 t250))) ?hg ?ho ?hn ?hr ?_; (case ho => rfl); (case hg => rfl); (case hn => rfl); (case hr => first | (go_simp; done) | (go_simp; rfl)); intro w83 hw; have hg : w80.grownBy w83 (some go69) := (by rw [hw]; exact HP82.2); have hz_ : Kd.R (Kd.int .i64) 3 w83 w.heap.size oki82 (.slice (some ⟨go69, 0, none⟩) ((rd_T38 y246 t227).f1).length c252_1) y253 := (by rw [hw, Ny253.out]; exact HP82.1); have hp_ : Kd.S k38 38 w83 w.heap.size (fun _ => True) (.slice (some ad238) t234.length co40) y255 := (by rw [Ny255.out]; exact hbk82 hg (fun k_ e_ => by injection e_ with e_; subst e_; exact ge82_1.1 _ rfl) (k38_mkM _ _ _ (⟨(rd_T38 y246 t227).f0, y253⟩ : S38) hz_)); have hm_ := Kd.R_mono hz_ hok82; clear HP82 hbk82; replace HO_238001 := am (hp_); replace BK225 := am (blk_grown (zk BK225) hg (Kd.R_ne HL252_1.out BK225.out (by decide))); replace BK226 := am (blk_grown (zk BK226) hg (Kd.R_ne HL252_1.out BK226.out (by decide))); replace BK237 := am (blk_grown (zk BK237) hg (Kd.R_ne HL252_1.out BK237.out (by decide))); replace HO249 := am (Kd.R_over' (v := (.slice (some ⟨go69, 0, none⟩) ((rd_T38 y246 t227).f1).length c252_1)) (zr HO249) (Kd.R_typed HL252_1.out) (by decide) hg); replace HB := am ((by rw [hw]; exact below_set (HB.out) GB69.out : Below w.heap.size w w83)); have HL258 := am (hm_); have HC254 := am ((Kd.R_reads' hm_).2.1); clear HL252_1; clear hg hw hp_ hz_ hm_ hok82; have hcz84_0 := ce0 BK237; have hcz84_1 := ce1 BK237; have hfz84_0 := bfz BK237 0; have hfz84_1 := bfz BK237 1; have hnb85 := NB226_225.out; have hnc85 := NB225_226.out; have hcz86_0 := ce0 BK226; have hcz86_1 := ce1 BK226; have hfz86_0 := bfz BK226 0; have hfz86_1 := bfz BK226 1))
   refine bodyPost_ret (results_ct rfl _ _ gb226 31 #[.slice Ao78 t247.length co78, .slice (some ad238) t234.length co40] (0, 0) _ rfl (zp BK226) Try.underlying31 rfl (by kernel_rfl)) rfl ?_
   exact ⟨_, _, zw, (Kd.R_lower (base := w.heap.size) (by (with_reducible repeat (first | apply Kd.R_alloc | apply Kd.R_drewN | apply Kd.R_drew)); exact Kd.R_mono (Kd.R_far (p := ⟨gb226, 1, none⟩) (Kd.R_far (p := ⟨gb226, 0, none⟩) (Kd.R_types HO249.out BK226.out (by decide)) (fun _ hk => hk.2) (.slice Ao78 t247.length co78)) (fun _ hk => hk.2) (.slice (some ad238) t234.length co40)) (fun _ hk => trivial)) hb_), (Kd.S_lower (base := w.heap.size) (by (with_reducible repeat (first | apply Kd.S_alloc | apply Kd.S_drewN | apply Kd.S_drew)); exact Kd.S_mono (Kd.S_far (p := ⟨gb226, 1, none⟩) (Kd.S_far (p := ⟨gb226, 0, none⟩) (Kd.S_types HO_238001.out BK226.out (by decide)) (fun _ hk => hk.2) (.slice Ao78 t247.length co78)) (fun _ hk => hk.2) (.slice (some ad238) t234.length co40)) (fun _ hk => trivial)) hb_), (zb HB)⟩
end Go.Proofs.Ytooamacekmjpaaa.PFnPoolOnce
