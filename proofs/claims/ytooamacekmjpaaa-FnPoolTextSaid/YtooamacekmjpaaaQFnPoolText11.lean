/- The walk: each function that the law comes to as a plain Lean function, and a proof that the Go code answers so. Written by this session's program over the kit's printer. -/
import Derived.Test.YtooamacekmjpaaaZ
import Derived.Test.YtooamacekmjpaaaQFnPoolText0
import Derived.Test.YtooamacekmjpaaaQFnPoolText1
import Derived.Test.YtooamacekmjpaaaQFnPoolText9
import Derived.Test.YtooamacekmjpaaaQFnPoolText10
namespace Go.Proofs.Ytooamacekmjpaaa.PFnPoolText
open Go.RowKit Go.Proofs.YtooamacekmjpaaaW.PrintWords Go.Proofs.YtooamacekmjpaaaW.PrintLast Go.Proofs.YtooamacekmjpaaaW.PrintMore
attribute [local go_sem] max2_int min2_int max_two min_two max_three min_three max_four min_four   -- for this text's walks alone
set_option linter.unusedVariables false
set_option linter.unusedSimpArgs false
/-! ### spec_l11Write: function 89 -/
mutual
def spec_l11Write.j0 : Nat → Int → ByteArray → Int → Bool → List (S55) → List (S38) → Option ((List (S55)) × (List (S38)) × Bool)
 | 0, _, _, _, _, _, _ => none
 | k + 1, x2, x3, x10, x38, x249000, x249001 => if x38 = true then (some (x249000, x249001, false)) else ((spec_l11Copy.f k x249000 x249001).bind fun bt254 => (if 0 ≤ x10 then (if x10 < (bt254.2.length : Int) then (if 0 ≤ x2 then (if x2 < (((rd_T38 bt254.2 x10).f1).length : Int) then (if (rd ((rd_T38 bt254.2 x10).f1) x2) > 0 then ((spec_l2Drop.f bt254.1 (rd ((rd_T38 bt254.2 x10).f1) x2)).bind fun t263 => (spec_l11Write.j1 k x2 x3 x10 x249000 x249001 t263 bt254.2)) else (spec_l11Write.j1 k x2 x3 x10 x249000 x249001 bt254.1 bt254.2)) else (none)) else (none)) else (none)) else (none)))
def spec_l11Write.j1 : Nat → Int → ByteArray → Int → List (S55) → List (S38) → List (S55) → List (S38) → Option ((List (S55)) × (List (S38)) × Bool)
 | 0, _, _, _, _, _, _, _ => none
 | k + 1, x2, x3, x10, x249000, x249001, x261000, x261001 => if 0 ≤ x10 then (if x10 < (x261001.length : Int) then (if 0 ≤ x2 then (if x2 < (((rd_T38 x261001 x10).f1).length : Int) then ((some (x261001.set (x10 : Int).toNat (⟨(rd_T38 x261001 x10).f0, (((rd_T38 x261001 x10).f1).set (x2 : Int).toNat 0)⟩ : S38) : List (S38))).bind fun y269 => (if x3.toList = ([] : List UInt8) then (some (x261000, y269, true)) else ((spec_l2Put.f k x261000 x3).bind fun bt270 => (if bt270.2.2 = true then (if x2 < (((rd_T38 y269 x10).f1).length : Int) then (some (bt270.1, (y269.set (x10 : Int).toNat (⟨(rd_T38 y269 x10).f0, (((rd_T38 y269 x10).f1).set (x2 : Int).toNat bt270.2.1)⟩ : S38)), true)) else (none)) else (some (x249000, x249001, false)))))) else (none)) else (none)) else (none)) else (none)
end
def spec_l11Write.f (k : Nat) (l0_0 : List (S55)) (l0_1 : List (S38)) (a1 : ByteArray) (a2 : Int) (a3 : ByteArray) : Option ((List (S55)) × (List (S38)) × Bool) := (spec_l11At.f k l0_0 l0_1 a1).bind fun t250 => (if t250 < 0 then (spec_l11Write.j0 k a2 a3 t250 true l0_0 l0_1) else (if 0 ≤ t250 then (if t250 < (l0_1.length : Int) then ((spec_l6In.f a2 0 (wrap64 ((((rd_T38 l0_1 t250).f1).length : Int) - 1))).bind fun t252 => (if t252 = true then ((spec_TextOk.f k a3).bind fun t253 => (spec_l11Write.j0 k a2 a3 t250 (!t253) l0_0 l0_1)) else (spec_l11Write.j0 k a2 a3 t250 true l0_0 l0_1))) else (none)) else (none)))
theorem spec_l11Write.mono_l : ∀ k, (∀ y0 y1 y2 y3 y4 y5, LeO (spec_l11Write.j0 k y0 y1 y2 y3 y4 y5) (spec_l11Write.j0 (k + 1) y0 y1 y2 y3 y4 y5)) ∧ (∀ y0 y1 y2 y3 y4 y5 y6, LeO (spec_l11Write.j1 k y0 y1 y2 y3 y4 y5 y6) (spec_l11Write.j1 (k + 1) y0 y1 y2 y3 y4 y5 y6))
 | 0 => ⟨fun _ _ _ _ _ _ r h => by simp [spec_l11Write.j0] at h, fun _ _ _ _ _ _ _ r h => by simp [spec_l11Write.j1] at h⟩
 | k + 1 => by
  obtain ⟨ih0, ih1⟩ := spec_l11Write.mono_l k
  refine ⟨?_, ?_⟩
  · intro y0 y1 y2 y3 y4 y5
    unfold spec_l11Write.j0
    repeat' first
    | (with_reducible exact ih0 _ _ _ _ _ _)
    | (with_reducible exact ih1 _ _ _ _ _ _ _)
    | (with_reducible exact spec_TextOk.mono _ _)
    | (with_reducible exact spec_l11At.mono _ _ _ _)
    | (with_reducible exact spec_l11Copy.mono _ _ _)
    | (with_reducible exact spec_l2Put.mono _ _ _)
    | (with_reducible exact LeO.refl _)
    | (with_reducible exact LeO.none _)
    | (with_reducible refine LeO.ite ?_ ?_)
    | (with_reducible refine LeO.bind ?_ (fun _ => ?_))
    | exact ih0 _ _ _ _ _ _
    | exact ih1 _ _ _ _ _ _ _
    | exact spec_TextOk.mono _ _
    | exact spec_l11At.mono _ _ _ _
    | exact spec_l11Copy.mono _ _ _
    | exact spec_l2Put.mono _ _ _
    | exact LeO.none _
    | refine LeO.ite ?_ ?_
    | refine LeO.bind ?_ (fun _ => ?_)
  intro y0 y1 y2 y3 y4 y5 y6
  unfold spec_l11Write.j1
  repeat' first
  | (with_reducible exact ih0 _ _ _ _ _ _)
  | (with_reducible exact ih1 _ _ _ _ _ _ _)
  | (with_reducible exact spec_TextOk.mono _ _)
  | (with_reducible exact spec_l11At.mono _ _ _ _)
  | (with_reducible exact spec_l11Copy.mono _ _ _)
  | (with_reducible exact spec_l2Put.mono _ _ _)
  | (with_reducible exact LeO.refl _)
  | (with_reducible exact LeO.none _)
  | (with_reducible refine LeO.ite ?_ ?_)
  | (with_reducible refine LeO.bind ?_ (fun _ => ?_))
  | exact ih0 _ _ _ _ _ _
  | exact ih1 _ _ _ _ _ _ _
  | exact spec_TextOk.mono _ _
  | exact spec_l11At.mono _ _ _ _
  | exact spec_l11Copy.mono _ _ _
  | exact spec_l2Put.mono _ _ _
  | exact LeO.none _
  | refine LeO.ite ?_ ?_
  | refine LeO.bind ?_ (fun _ => ?_)
theorem spec_l11Write.mono : ∀ a0 a1 a2 a3 a4 k, LeO (spec_l11Write.f k a0 a1 a2 a3 a4) (spec_l11Write.f (k + 1) a0 a1 a2 a3 a4) := by
 intro a0 a1 a2 a3 a4 k
 obtain ⟨ih0, ih1⟩ := spec_l11Write.mono_l k
 unfold spec_l11Write.f
 repeat' first
  | (with_reducible exact ih0 _ _ _ _ _ _)
  | (with_reducible exact ih1 _ _ _ _ _ _ _)
  | (with_reducible exact spec_TextOk.mono _ _)
  | (with_reducible exact spec_l11At.mono _ _ _ _)
  | (with_reducible exact spec_l11Copy.mono _ _ _)
  | (with_reducible exact spec_l2Put.mono _ _ _)
  | (with_reducible exact LeO.refl _)
  | (with_reducible exact LeO.none _)
  | (with_reducible refine LeO.ite ?_ ?_)
  | (with_reducible refine LeO.bind ?_ (fun _ => ?_))
  | exact ih0 _ _ _ _ _ _
  | exact ih1 _ _ _ _ _ _ _
  | exact spec_TextOk.mono _ _
  | exact spec_l11At.mono _ _ _ _
  | exact spec_l11Copy.mono _ _ _
  | exact spec_l2Put.mono _ _ _
  | exact LeO.none _
  | refine LeO.ite ?_ ?_
  | refine LeO.bind ?_ (fun _ => ?_)
set_option maxHeartbeats 8000000 in
set_option maxRecDepth 100000 in
theorem spec_l11Write.calls (k : Nat) (A0_0 : Option Addr) (c0_0 : Nat) (l0_0 : List (S55)) (A0_1 : Option Addr) (c0_1 : Nat) (l0_1 : List (S38)) (a1 : ByteArray) (a2 : Int) (a3 : ByteArray) (r1 : List (S55)) (r2 : List (S38)) (r3 : Bool) (w : World) (hr0_0 : Kd.C k55 w A0_0 l0_0.length l0_0) (hc0_0 : l0_0.length ≤ c0_0) (hr0_1 : Kd.C k38 w A0_1 l0_1.length l0_1) (hc0_1 : l0_1.length ≤ c0_1) (b_ : Nat) (hb_ : b_ ≤ w.heap.size) (hq0_0 : Kd.R k55 55 w b_ (fun _ => True) (.slice A0_0 l0_0.length c0_0) l0_0) (hq0_1 : Kd.S k38 38 w b_ (fun _ => True) (.slice A0_1 l0_1.length c0_1) l0_1) (h : spec_l11Write.f k l0_0 l0_1 a1 a2 a3 = some (r1, r2, r3)) :
 Calls Try.prog 89 #[.agg #[.slice A0_0 l0_0.length c0_0, .slice A0_1 l0_1.length c0_1], .string a1, .int .i64 a2, .string a3] w fun e w' => ∃ v0_ v1_ : Value, e = .returned (.tuple #[.agg #[v0_, v1_], .bool r3]) ∧ Kd.R k55 55 w' b_ (fun _ => True) v0_ r1 ∧ Kd.S k38 38 w' b_ (fun _ => True) v1_ r2 ∧ Below w.heap.size w w' := by
 have hu31 := Try.underlying31
 have HR0_0 := am hr0_0
 have HC0_0 := am hc0_0
 clear hr0_0 hc0_0
 have HR0_1 := am hr0_1
 have HC0_1 := am hc0_1
 clear hr0_1 hc0_1
 have HB := am (Below.refl w.heap.size w)
 have H : ((spec_l11At.f k l0_0 l0_1 a1).bind fun t250 => (if t250 < 0 then (spec_l11Write.j0 k a2 a3 t250 true l0_0 l0_1) else (if 0 ≤ t250 then (if t250 < (l0_1.length : Int) then ((spec_l6In.f a2 0 (wrap64 ((((rd_T38 l0_1 t250).f1).length : Int) - 1))).bind fun t252 => (if t252 = true then ((spec_TextOk.f k a3).bind fun t253 => (spec_l11Write.j0 k a2 a3 t250 (!t253) l0_0 l0_1)) else (spec_l11Write.j0 k a2 a3 t250 true l0_0 l0_1))) else (none)) else (none)))) = some (r1, r2, r3) := h
 clear h
 replace H := obs H
 obtain ⟨t250, A50, H⟩ := H
 replace H : (if t250 < 0 then (spec_l11Write.j0 k a2 a3 t250 true l0_0 l0_1) else (if 0 ≤ t250 then (if t250 < (l0_1.length : Int) then ((spec_l6In.f a2 0 (wrap64 ((((rd_T38 l0_1 t250).f1).length : Int) - 1))).bind fun t252 => (if t252 = true then ((spec_TextOk.f k a3).bind fun t253 => (spec_l11Write.j0 k a2 a3 t250 (!t253) l0_0 l0_1)) else (spec_l11Write.j0 k a2 a3 t250 true l0_0 l0_1))) else (none)) else (none))) = some (r1, r2, r3) := H
 have A5 := am A50
 clear A50
 have HC6 := am H
 clear H
 go_enter Try.func89, Try.ntmps89
 go_upto_region 2 with (first | ((with_reducible refine gate_dst (N := 4) rfl ?_); (try (refine gate_guard (by rfl) ?_; dsimp only)); refine bx 31 #[.slice A0_0 l0_0.length c0_0, .slice A0_1 l0_1.length c0_1] ?_; intro gb248 hg w7 hbox hb; have BK248 := am (hbox); have GW248 := am (zn hg (zb HB)); have GE248 := am (zn hg (zb HB)); replace HB := am (below_step (zb HB) hb); clear hb hbox hg) | ((with_reducible refine gate_dst (N := 8) rfl ?_); (try (refine gate_guard (by rfl) ?_; dsimp only)); refine bx 31 #[.slice none 0 0, .slice none 0 0] ?_; intro gb249 hg w8 hbox hb; have BK249 := am (hbox); have GW249 := am (zn hg (zb HB)); have GE249 := am (zn hg (zb HB)); replace HB := am (below_step (zb HB) hb); have NB248_249 := am (zx hg (zk BK248)); have NB249_248 := am (zy hg (zk BK248)); replace BK248 := am (blk_below (zk BK248) hb); clear hb hbox hg; have hnb9 := NB248_249.out; have hnc9 := NB249_248.out; have hcz10_0 := ce0 BK248; have hcz10_1 := ce1 BK248; have hfz10_0 := bfz BK248 0; have hfz10_1 := bfz BK248 1) | ((with_reducible refine gate_callee (f := 57) rfl ?_); refine gl Try.func57 18 #[.agg #[.slice A0_0 l0_0.length c0_0, .slice A0_1 l0_1.length c0_1], .string a1] rfl rfl rfl ?_; (with_reducible refine (spec_l11At.calls k _ _ l0_0 _ _ l0_1 a1 t250 _ ?side1 ?side2 ?side3 ?side4 A5.out).mono ?_); (case side1 => exact zc (Kd.C_below HR0_0.out HB.out)); (case side2 => exact HC0_0.out); (case side3 => exact zc (Kd.C_below HR0_1.out HB.out)); (case side4 => exact HC0_1.out); rintro e w11 ⟨rfl, hb⟩; refine ⟨_, rfl, ?_⟩; replace BK248 := am (blk_below (zk BK248) hb); replace BK249 := am (blk_below (zk BK249) hb); replace HB := am (below_step (zb HB) hb); (try clear hb); (try clear hb2); (try clear hk); (try clear hi)))
 (try simp only [Act.put, List.setIfInBounds_toArray, List.set_cons_zero, List.set_cons_succ])
 go_cut [38] (fun v38 wc => ∃ (kq : Nat) (x38_5 : Bool), v38 = .bool x38_5 ∧ Aside0 (spec_l11Write.j0 kq a2 a3 t250 x38_5 l0_0 l0_1 = some (r1, r2, r3)) ∧ Aside0 (kq ≤ k) ∧ Aside0 (wc.heap[gb248]? = some (.cells #[(.slice A0_0 l0_0.length c0_0), (.slice A0_1 l0_1.length c0_1)] 31 (0, 0))) ∧ Aside0 (wc.heap[gb249]? = some (.cells #[(.slice none 0 0), (.slice none 0 0)] 31 (0, 0))) ∧ Aside0 (Below w.heap.size w wc))
 case first =>
  have H := HC6.out
  clear HC6
  by_cases c12 : t250 < 0
  · rw [if_pos c12] at H
    have c12b0 : decide (t250 < 0) = true := decide_eq_true c12
    clear c12
    (first | rw [c12b0] | (simp only [i64_w, i32_w]; rw [c12b0]) | skip)
    have H' := am H
    clear H
    go_wp2
    go_meet
    case rel => exact ⟨_, (true), ze, H', ⟨by first | omega | exact Nat.le_refl _⟩, ⟨zk BK248⟩, ⟨zk BK249⟩, ⟨zb HB⟩⟩
  rw [if_neg c12] at H
  have c12b0 : decide (t250 < 0) = false := decide_eq_false c12
  clear c12
  (first | rw [c12b0] | (simp only [i64_w, i32_w]; rw [c12b0]) | skip)
  by_cases c13 : 0 ≤ t250
  rotate_left
  · rw [if_neg c13] at H
    exact absurd H (by simp)
  rw [if_pos c13] at H
  have c13b0 : decide (0 ≤ t250) = true := decide_eq_true c13
  clear c13
  by_cases c14 : t250 < (l0_1.length : Int)
  rotate_left
  · rw [if_neg c14] at H
    exact absurd H (by simp)
  rw [if_pos c14] at H
  have c14b0 : decide (t250 < (l0_1.length : Int)) = true := decide_eq_true c14
  clear c14
  replace H := obs H
  obtain ⟨t252, A150, H⟩ := H
  replace H : (if t252 = true then ((spec_TextOk.f k a3).bind fun t253 => (spec_l11Write.j0 k a2 a3 t250 (!t253) l0_0 l0_1)) else (spec_l11Write.j0 k a2 a3 t250 true l0_0 l0_1)) = some (r1, r2, r3) := H
  have A15 := am A150
  clear A150
  by_cases c16 : t252 = true
  rotate_left
  · replace c16 := Bool.eq_false_iff.mpr c16
    subst c16
    have H1 : (spec_l11Write.j0 k a2 a3 t250 true l0_0 l0_1) = some (r1, r2, r3) := by rw [if_neg (show ¬ (false = true) by decide)] at H; exact H
    clear H
    have H := H1
    clear H1
    have H' := am H
    clear H
    have hnb20 := NB248_249.out
    have hnc20 := NB249_248.out
    have hcz21_0 := ce0 BK248
    have hcz21_1 := ce1 BK248
    have hfz21_0 := bfz BK248 0
    have hfz21_1 := bfz BK248 1
    have p251 : 0 ≤ (t250 : Int) := of_decide_eq_true zl
    have q251 : t250 < (l0_1.length : Int) := of_decide_eq_true zl
    obtain ⟨ad251, A251_1, c251_1, e251, hx251_0, hx251_1, hl251_1, hi251_1⟩ := at_T38 HR0_1.out t250 p251 q251
    cases e251
    replace hx251_0 := hcx HB hx251_0
    replace hx251_1 := hcx HB hx251_1
    have HR251_1 := am hi251_1
    have HC251_1 := am hl251_1
    clear hi251_1 hl251_1
    replace p251 := eq_true p251
    replace q251 := eq_true q251
    go_wp2_with (first | (go_at_call 55; (with_reducible refine (spec_l6In.calls a2 0 (wrap64 ((((rd_T38 l0_1 t250).f1).length : Int) - 1)) false _ A15.out).mono ?_); rintro e w' ⟨rfl, ⟨nd, rfl⟩⟩))
    go_meet
    case rel => exact ⟨_, (true), ze, H', ⟨by first | omega | exact Nat.le_refl _⟩, ⟨zk BK248⟩, ⟨zk BK249⟩, ⟨zb HB⟩⟩
  subst c16
  have H1 : ((spec_TextOk.f k a3).bind fun t253 => (spec_l11Write.j0 k a2 a3 t250 (!t253) l0_0 l0_1)) = some (r1, r2, r3) := by rw [if_pos rfl] at H; exact H
  clear H
  have H := H1
  clear H1
  replace H := obs H
  obtain ⟨t253, A170, H⟩ := H
  replace H : (spec_l11Write.j0 k a2 a3 t250 (!t253) l0_0 l0_1) = some (r1, r2, r3) := H
  have A17 := am A170
  clear A170
  have H' := am H
  clear H
  have hnb18 := NB248_249.out
  have hnc18 := NB249_248.out
  have hcz19_0 := ce0 BK248
  have hcz19_1 := ce1 BK248
  have hfz19_0 := bfz BK248 0
  have hfz19_1 := bfz BK248 1
  have p251 : 0 ≤ (t250 : Int) := of_decide_eq_true zl
  have q251 : t250 < (l0_1.length : Int) := of_decide_eq_true zl
  obtain ⟨ad251, A251_1, c251_1, e251, hx251_0, hx251_1, hl251_1, hi251_1⟩ := at_T38 HR0_1.out t250 p251 q251
  cases e251
  replace hx251_0 := hcx HB hx251_0
  replace hx251_1 := hcx HB hx251_1
  have HR251_1 := am hi251_1
  have HC251_1 := am hl251_1
  clear hi251_1 hl251_1
  replace p251 := eq_true p251
  replace q251 := eq_true q251
  go_wp2_with (first | (go_at_call 55; (with_reducible refine (spec_l6In.calls a2 0 (wrap64 ((((rd_T38 l0_1 t250).f1).length : Int) - 1)) true _ A15.out).mono ?_); rintro e w' ⟨rfl, ⟨nd, rfl⟩⟩) | (go_at_call 65; (with_reducible refine (spec_TextOk.calls k a3 t253 _ A17.out).mono ?_); rintro e w' ⟨rfl, ⟨nd, rfl⟩⟩))
  go_meet
  case rel => exact ⟨_, (!t253), ze, H', ⟨by first | omega | exact Nat.le_refl _⟩, ⟨zk BK248⟩, ⟨zk BK249⟩, ⟨zb HB⟩⟩
 clear HC6
 try clear c1
 try clear c2
 try clear p2
 try clear q2
 try clear hx2
 try clear c5
 try clear p6
 try clear c8
 try clear c9
 try clear c12
 try clear c12b0
 try clear c13
 try clear c13b0
 try clear c14
 try clear c14b0
 try clear c16
 try clear c18
 try clear c20
 try clear hcz10_0
 try clear hcz10_1
 try clear hcz19_0
 try clear hcz19_1
 try clear hcz21_0
 try clear hcz21_1
 try clear hfz10_0
 try clear hfz10_1
 try clear hfz19_0
 try clear hfz19_1
 try clear hfz21_0
 try clear hfz21_1
 try clear hx251_0
 try clear hx251_1
 try clear p251
 try clear q251
 obtain ⟨kq, x38_5, rfl, HA, HJ5, BK248, BK249, HB⟩ := hcut
 cases kq with
 | zero => exact absurd HA.out (by simp [spec_l11Write.j0])
 | succ kj5 =>
  have H := HA.out
  clear HA
  simp only [spec_l11Write.j0] at H
  by_cases c22 : x38_5 = true
  · subst c22
    have H1 : (some (l0_0, l0_1, false)) = some (r1, r2, r3) := by rw [if_pos rfl] at H; exact H
    clear H
    have H := H1
    clear H1
    simp only [Option.some.injEq, Prod.mk.injEq] at H
    obtain ⟨rfl, rfl, rfl⟩ := H
    have hnb23 := NB248_249.out
    have hnc23 := NB249_248.out
    have hcz24_0 := ce0 BK248
    have hcz24_1 := ce1 BK248
    have hfz24_0 := bfz BK248 0
    have hfz24_1 := bfz BK248 1
    have hcz25_0 := ce0 BK249
    have hcz25_1 := ce1 BK249
    have hfz25_0 := bfz BK249 0
    have hfz25_1 := bfz BK249 1
    go_wp2
    refine bodyPost_ret (results_ct rfl _ _ gb249 31 #[.slice A0_0 l0_0.length c0_0, .slice A0_1 l0_1.length c0_1] (0, 0) _ rfl (zp BK249) Try.underlying31 rfl (by kernel_rfl)) rfl ?_
    exact ⟨_, _, zw, (Kd.R_below hq0_0 (zb HB)), (Kd.S_below hq0_1 (zb HB)), (zb HB)⟩
  replace c22 := Bool.eq_false_iff.mpr c22
  subst c22
  have H1 : ((spec_l11Copy.f kj5 l0_0 l0_1).bind fun bt254 => (if 0 ≤ t250 then (if t250 < (bt254.2.length : Int) then (if 0 ≤ a2 then (if a2 < (((rd_T38 bt254.2 t250).f1).length : Int) then (if (rd ((rd_T38 bt254.2 t250).f1) a2) > 0 then ((spec_l2Drop.f bt254.1 (rd ((rd_T38 bt254.2 t250).f1) a2)).bind fun t263 => (spec_l11Write.j1 kj5 a2 a3 t250 l0_0 l0_1 t263 bt254.2)) else (spec_l11Write.j1 kj5 a2 a3 t250 l0_0 l0_1 bt254.1 bt254.2)) else (none)) else (none)) else (none)) else (none))) = some (r1, r2, r3) := by rw [if_neg (show ¬ (false = true) by decide)] at H; exact H
  clear H
  have H := H1
  clear H1
  replace H := obs H
  obtain ⟨⟨t254, t257⟩, A260, H⟩ := H
  replace H : (if 0 ≤ t250 then (if t250 < (t257.length : Int) then (if 0 ≤ a2 then (if a2 < (((rd_T38 t257 t250).f1).length : Int) then (if (rd ((rd_T38 t257 t250).f1) a2) > 0 then ((spec_l2Drop.f t254 (rd ((rd_T38 t257 t250).f1) a2)).bind fun t263 => (spec_l11Write.j1 kj5 a2 a3 t250 l0_0 l0_1 t263 t257)) else (spec_l11Write.j1 kj5 a2 a3 t250 l0_0 l0_1 t254 t257)) else (none)) else (none)) else (none)) else (none)) = some (r1, r2, r3) := H
  have A26 := am A260
  clear A260
  by_cases c27 : 0 ≤ t250
  rotate_left
  · rw [if_neg c27] at H
    exact absurd H (by simp)
  rw [if_pos c27] at H
  have c27b0 : decide (0 ≤ t250) = true := decide_eq_true c27
  clear c27
  by_cases c28 : t250 < (t257.length : Int)
  rotate_left
  · rw [if_neg c28] at H
    exact absurd H (by simp)
  rw [if_pos c28] at H
  have c28b0 : decide (t250 < (t257.length : Int)) = true := decide_eq_true c28
  clear c28
  by_cases c29 : 0 ≤ a2
  rotate_left
  · rw [if_neg c29] at H
    exact absurd H (by simp)
  rw [if_pos c29] at H
  have c29b0 : decide (0 ≤ a2) = true := decide_eq_true c29
  clear c29
  by_cases c30 : a2 < (((rd_T38 t257 t250).f1).length : Int)
  rotate_left
  · rw [if_neg c30] at H
    exact absurd H (by simp)
  rw [if_pos c30] at H
  have c30b0 : decide (a2 < (((rd_T38 t257 t250).f1).length : Int)) = true := decide_eq_true c30
  clear c30
  have HC31 := am H
  clear H
  have hnb32 := NB248_249.out
  have hnc32 := NB249_248.out
  have hcz33_0 := ce0 BK248
  have hcz33_1 := ce1 BK248
  have hfz33_0 := bfz BK248 0
  have hfz33_1 := bfz BK248 1
  go_upto_if 52 with (first | ((with_reducible refine gate_callee (f := 82) rfl ?_); refine gl Try.func82 41 #[.agg #[.slice A0_0 l0_0.length c0_0, .slice A0_1 l0_1.length c0_1]] rfl rfl rfl ?_; (with_reducible refine (spec_l11Copy.calls kj5 _ _ l0_0 _ _ l0_1 t254 t257 _ ?side1 ?side2 ?side3 ?side4 A26.out).mono ?_); (case side1 => exact zc (Kd.C_below HR0_0.out HB.out)); (case side2 => exact HC0_0.out); (case side3 => exact zc (Kd.C_below HR0_1.out HB.out)); (case side4 => exact HC0_1.out); rintro e w34 ⟨v255, v258, rfl, ho0, ho1, hb⟩; refine ⟨_, rfl, ?_⟩; have HO256 := am (Kd.R_lower ho0 (below_size (zb HB))); have HO259 := am (Kd.S_lower ho1 (below_size (zb HB))); replace BK248 := am (blk_below (zk BK248) hb); replace BK249 := am (blk_below (zk BK249) hb); replace HB := am (below_step (zb HB) hb); (try clear hb); (try clear hb2); (try clear hk); (try clear hi); (try clear ho0); (try clear ho1)) | ((with_reducible refine gate_dst (N := 11) rfl ?_); (try (refine gate_guard (by rfl) ?_; dsimp only)); refine bx 31 #[.slice none 0 0, .slice none 0 0] ?_; intro gb260 hg w35 hbox hb; replace HO256 := am (Kd.R_below (zr HO256) hb); replace HO259 := am (Kd.S_below (zs HO259) hb); have BK260 := am (hbox); have GW260 := am (zn hg (zb HB)); have GE260 := am (zn hg (zb HB)); replace HB := am (below_step (zb HB) hb); have NB248_260 := am (zx hg (zk BK248)); have NB260_248 := am (zy hg (zk BK248)); replace BK248 := am (blk_below (zk BK248) hb); have NB249_260 := am (zx hg (zk BK249)); have NB260_249 := am (zy hg (zk BK249)); replace BK249 := am (blk_below (zk BK249) hb); clear hb hbox hg; obtain ⟨Ao36, co36, eo36⟩ := Kd.R_slice HO256.out; subst eo36; have hnb37 := NB260_248.out; have hnc37 := NB248_260.out; have hnb38 := NB260_249.out; have hnc38 := NB249_260.out; have hcz39_0 := ce0 BK260; have hcz39_1 := ce1 BK260; have hfz39_0 := bfz BK260 0; have hfz39_1 := bfz BK260 1; obtain ⟨Ao40, co40, eo40⟩ := Kd.S_slice HO259.out; subst eo40) | ((with_reducible refine gate_store (t := 31) (p := 11) rfl ?_); refine store_event (t := 31) (p := 11) (v := ?vo_w41) (w1 := ((w35.setCell ⟨gb260, 0, none⟩ (.slice Ao36 t254.length co36)).setCell ⟨gb260, 1, none⟩ (.slice Ao40 t257.length co40))) ?hg ?ho ?hn ?hr ?_; (case ho => rfl); (case hg => rfl); (case hn => rfl); (case hr => first | (go_simp; done) | (go_simp; rfl)); intro w41 hw; replace HO256 : Aside0 (Kd.R k55 55 w41 w.heap.size (fun _ => True) (.slice Ao36 t254.length co36) t254) := ⟨(by rw [hw]; exact (by (with_reducible repeat (first | apply Kd.R_alloc | apply Kd.R_drewN | apply Kd.R_drew)); exact Kd.R_mono (Kd.R_far (p := ⟨gb260, 1, none⟩) (Kd.R_far (p := ⟨gb260, 0, none⟩) (Kd.R_types HO256.out BK260.out (by decide)) (fun _ hk => hk.2) (.slice Ao36 t254.length co36)) (fun _ hk => hk.2) (.slice Ao40 t257.length co40)) (fun _ hk => trivial)))⟩; replace HO259 : Aside0 (Kd.S k38 38 w41 w.heap.size (fun _ => True) (.slice Ao40 t257.length co40) t257) := ⟨(by rw [hw]; exact (by (with_reducible repeat (first | apply Kd.S_alloc | apply Kd.S_drewN | apply Kd.S_drew)); exact Kd.S_mono (Kd.S_far (p := ⟨gb260, 1, none⟩) (Kd.S_far (p := ⟨gb260, 0, none⟩) (Kd.S_types HO259.out BK260.out (by decide)) (fun _ hk => hk.2) (.slice Ao36 t254.length co36)) (fun _ hk => hk.2) (.slice Ao40 t257.length co40)) (fun _ hk => trivial)))⟩; replace BK248 : Aside0 (w41.heap[gb248]? = some (.cells #[.slice A0_0 l0_0.length c0_0, .slice A0_1 l0_1.length c0_1] 31 (0, 0))) := ⟨(by rw [hw]; exact (zk BK248))⟩; replace BK249 : Aside0 (w41.heap[gb249]? = some (.cells #[.slice none 0 0, .slice none 0 0] 31 (0, 0))) := ⟨(by rw [hw]; exact (zk BK249))⟩; replace BK260 : Aside0 (w41.heap[gb260]? = some (.cells #[.slice Ao36 t254.length co36, .slice Ao40 t257.length co40] 31 (0, 0))) := ⟨(by rw [hw]; exact (zp BK260))⟩; replace HB : Aside0 (Below w.heap.size w w41) := ⟨(by rw [hw]; exact (zb HB))⟩; clear hw; have hcz42_0 := ce0 BK260; have hcz42_1 := ce1 BK260; have hfz42_0 := bfz BK260 0; have hfz42_1 := bfz BK260 1; have p261 : 0 ≤ (t250 : Int) := of_decide_eq_true zl; have q261 : t250 < (t257.length : Int) := of_decide_eq_true zl; obtain ⟨ad261, A261_1, c261_1, e261, hx261_0, hx261_1, hl261_1, hi261_1⟩ := at_T38 (Kd.S_reads' HO259.out).2.2 t250 p261 q261; cases e261; obtain ⟨ce261, hce261, hMe261, hcc261⟩ := Kd.S_get HO259.out z38 t250 p261 (by first | exact q261 | exact of_decide_eq_true zl | (have e_ := (Kd.S_reads' HO259.out).1; omega)); obtain ⟨ve261_1, rfl, ge261_1⟩ := k38_openM hMe261; have hv261_1 := hcc261 1 _ rfl; rw [add_field _ _ 1 (by omega)] at hv261_1; replace hv261_1 := Option.some.inj (hv261_1.symm.trans hx261_1); rw [hv261_1] at ge261_1; have HL261_1 := am (show Kd.R (Kd.int .i64) 3 _ _ _ _ ((rd_T38 t257 t250).f1) from ge261_1); clear hv261_1 ge261_1; have HX261_1 := am hx261_1; clear hcc261 hce261; have HR261_1 := am hi261_1; have HC261_1 := am hl261_1; clear hi261_1 hl261_1; replace p261 := eq_true p261; replace q261 := eq_true q261; have p262 : 0 ≤ (a2 : Int) := of_decide_eq_true zl; have q262 : a2 < (((rd_T38 t257 t250).f1).length : Int) := of_decide_eq_true zl; obtain ⟨ad262, e262, hx262_0⟩ := Kd.at_int (zc HR261_1.out) a2 p262 q262; cases e262; replace p262 := eq_true p262; replace q262 := eq_true q262))
  (try simp only [Act.put, List.setIfInBounds_toArray, List.set_cons_zero, List.set_cons_succ])
  go_cut [] (fun wc => ∃ (kq : Nat) (x261000_30 : List (S55)) (u261000 : Value), Aside0 (spec_l11Write.j1 kq a2 a3 t250 l0_0 l0_1 x261000_30 t257 = some (r1, r2, r3)) ∧ Aside0 (kq ≤ kj5) ∧ Aside0 (Kd.R k55 55 wc w.heap.size (fun _ => True) u261000 x261000_30) ∧ Aside0 (Kd.S k38 38 wc w.heap.size (fun _ => True) (.slice (some ad261) t257.length co40) t257) ∧ Aside0 (wc.heap[gb248]? = some (.cells #[(.slice A0_0 l0_0.length c0_0), (.slice A0_1 l0_1.length c0_1)] 31 (0, 0))) ∧ Aside0 (wc.heap[gb249]? = some (.cells #[(.slice none 0 0), (.slice none 0 0)] 31 (0, 0))) ∧ Aside0 (wc.heap[gb260]? = some (.cells #[u261000, (.slice (some ad261) t257.length co40)] 31 (0, 0))) ∧ Aside0 (Below w.heap.size w wc))
  case first =>
   have H := HC31.out
   clear HC31
   by_cases c43 : (rd ((rd_T38 t257 t250).f1) a2) > 0
   rotate_left
   · rw [if_neg c43] at H
     have c43b0 : decide (0 < (rd ((rd_T38 t257 t250).f1) a2)) = false := decide_eq_false c43
     clear c43
     (first | rw [c43b0] | (simp only [i64_w, i32_w]; rw [c43b0]) | skip)
     have H' := am H
     clear H
     go_wp2
     go_meet
     case rel => exact ⟨_, (t254), (.slice Ao36 t254.length co36), H', ⟨by have := HJ5.out; first | omega | exact Nat.le_refl _⟩, ⟨zr HO256⟩, ⟨zs HO259⟩, ⟨zk BK248⟩, ⟨zk BK249⟩, ⟨zk BK260⟩, ⟨zb HB⟩⟩
   rw [if_pos c43] at H
   have c43b0 : decide (0 < (rd ((rd_T38 t257 t250).f1) a2)) = true := decide_eq_true c43
   clear c43
   (first | rw [c43b0] | (simp only [i64_w, i32_w]; rw [c43b0]) | skip)
   replace H := obs H
   obtain ⟨t263, A440, H⟩ := H
   replace H : (spec_l11Write.j1 kj5 a2 a3 t250 l0_0 l0_1 t263 t257) = some (r1, r2, r3) := H
   have A44 := am A440
   clear A440
   have H' := am H
   clear H
   have hnb45 := NB260_248.out
   have hnc45 := NB248_260.out
   have hnb46 := NB260_249.out
   have hnc46 := NB249_260.out
   have hcz47_0 := ce0 BK260
   have hcz47_1 := ce1 BK260
   have hfz47_0 := bfz BK260 0
   have hfz47_1 := bfz BK260 1
   go_wp2_with (first | ((with_reducible refine gate_callee (f := 96) rfl ?_); refine gl Try.func96 56 #[.slice Ao36 t254.length co36, .int .i64 (rd ((rd_T38 t257 t250).f1) a2)] rfl rfl rfl ?_; (with_reducible refine (spec_l2Drop.calls (fun k_ => some k_ = (.slice Ao36 t254.length co36 : Value).ownBlock) (.slice Ao36 t254.length co36) t254 (rd ((rd_T38 t257 t250).f1) a2) t263 w _ ?side1 ?side2 A44.out).mono ?_); (case side1 => exact zb HB); (case side2 => exact Kd.R_tight rfl HO256.out); rintro e w48 ⟨v264, rfl, ho0, hb, hkp⟩; refine ⟨_, rfl, ?_⟩; replace BK248 := am (blk_kept (zk BK248) hkp (fun hs_ => (fun e_ => (Kd.R_ne HO256.out BK248.out (by decide)) e_) hs_)); replace BK249 := am (blk_kept (zk BK249) hkp (fun hs_ => (fun e_ => (Kd.R_ne HO256.out BK249.out (by decide)) e_) hs_)); replace HO259 := am (Kd.S_mono (ok' := fun k_ => True) (Kd.S_keptB ((Kd.S_apart' HO259.out (Kd.R_typed HO256.out) (by decide))) hkp (fun k_ hk_ hs_ => (hk_.2) hs_)) (fun k_ hk_ => trivial)); replace BK260 := am (blk_kept (zk BK260) hkp (fun hs_ => (fun e_ => (Kd.R_ne HO256.out BK260.out (by decide)) e_) hs_)); have HO265 := am (Kd.R_mono (ok' := fun k_ => True) ho0 (fun k_ hk_ => trivial)); replace HB := am (hb); clear HO256 HL261_1; (try clear hb); (try clear hkp); (try clear ho0); obtain ⟨Ao49, co49, eo49⟩ := Kd.R_slice HO265.out; subst eo49; have hcz50_0 := ce0 BK260; have hcz50_1 := ce1 BK260; have hfz50_0 := bfz BK260 0; have hfz50_1 := bfz BK260 1))
   go_meet
   case rel => exact ⟨_, (t263), (.slice Ao49 t263.length co49), H', ⟨by have := HJ5.out; first | omega | exact Nat.le_refl _⟩, ⟨by (with_reducible repeat (first | apply Kd.R_alloc | apply Kd.R_drewN | apply Kd.R_drew)); exact Kd.R_mono (Kd.R_far (p := ⟨gb260, 0, none⟩) (Kd.R_types HO265.out BK260.out (by decide)) (fun _ hk => by first | exact hk.2 | trivial) (.slice Ao49 t263.length co49)) (fun _ hk => trivial)⟩, ⟨by (with_reducible repeat (first | apply Kd.S_alloc | apply Kd.S_drewN | apply Kd.S_drew)); exact Kd.S_mono (Kd.S_far (p := ⟨gb260, 0, none⟩) (Kd.S_types HO259.out BK260.out (by decide)) (fun _ hk => by first | exact hk.2 | trivial) (.slice Ao49 t263.length co49)) (fun _ hk => trivial)⟩, ⟨zk BK248⟩, ⟨zk BK249⟩, ⟨zp BK260⟩, ⟨zb HB⟩⟩
  clear HC31
  try clear c1
  try clear c2
  try clear p2
  try clear q2
  try clear hx2
  try clear c3
  try clear c4
  try clear c5
  try clear p6
  try clear c8
  try clear c9
  try clear c12
  try clear c12b0
  try clear c13
  try clear c13b0
  try clear c14
  try clear c14b0
  try clear c16
  try clear c18
  try clear c20
  try clear c22
  try clear c23
  try clear c25
  try clear p25
  try clear q25
  try clear hx25
  try clear c26
  try clear p26
  try clear q26
  try clear hx26
  try clear c27
  try clear c27b0
  try clear c28
  try clear c28b0
  try clear c29
  try clear c29b0
  try clear c30
  try clear c30b0
  try clear c32
  try clear c37
  try clear c38
  try clear c43
  try clear c43b0
  try clear c45
  try clear c46
  try clear hcz10_0
  try clear hcz10_1
  try clear hcz19_0
  try clear hcz19_1
  try clear hcz21_0
  try clear hcz21_1
  try clear hcz24_0
  try clear hcz24_1
  try clear hcz25_0
  try clear hcz25_1
  try clear hcz33_0
  try clear hcz33_1
  try clear hcz39_0
  try clear hcz39_1
  try clear hcz42_0
  try clear hcz42_1
  try clear hcz47_0
  try clear hcz47_1
  try clear hcz50_0
  try clear hcz50_1
  try clear hfz10_0
  try clear hfz10_1
  try clear hfz19_0
  try clear hfz19_1
  try clear hfz21_0
  try clear hfz21_1
  try clear hfz24_0
  try clear hfz24_1
  try clear hfz25_0
  try clear hfz25_1
  try clear hfz33_0
  try clear hfz33_1
  try clear hfz39_0
  try clear hfz39_1
  try clear hfz42_0
  try clear hfz42_1
  try clear hfz47_0
  try clear hfz47_1
  try clear hfz50_0
  try clear hfz50_1
  try clear hx251_0
  try clear hx251_1
  try clear hx261_0
  try clear hx261_1
  try clear hx262_0
  try clear p2
  try clear p251
  try clear p261
  try clear p262
  try clear p6
  try clear q2
  try clear q251
  try clear q261
  try clear q262
  obtain ⟨kq, x261000_30, u261000, HA, HJ30, HO_261000, HO_261001, BK248, BK249, BK260, HB⟩ := hcut
  cases kq with
  | zero => exact absurd HA.out (by simp [spec_l11Write.j1])
  | succ kj30 =>
   have H := HA.out
   clear HA
   simp only [spec_l11Write.j1] at H
   by_cases c51 : 0 ≤ t250
   rotate_left
   · rw [if_neg c51] at H
     exact absurd H (by simp)
   rw [if_pos c51] at H
   have c51b0 : decide (0 ≤ t250) = true := decide_eq_true c51
   clear c51
   by_cases c52 : t250 < (t257.length : Int)
   rotate_left
   · rw [if_neg c52] at H
     exact absurd H (by simp)
   rw [if_pos c52] at H
   have c52b0 : decide (t250 < (t257.length : Int)) = true := decide_eq_true c52
   clear c52
   by_cases c53 : 0 ≤ a2
   rotate_left
   · rw [if_neg c53] at H
     exact absurd H (by simp)
   rw [if_pos c53] at H
   have c53b0 : decide (0 ≤ a2) = true := decide_eq_true c53
   clear c53
   by_cases c54 : a2 < (((rd_T38 t257 t250).f1).length : Int)
   rotate_left
   · rw [if_neg c54] at H
     exact absurd H (by simp)
   rw [if_pos c54] at H
   have c54b0 : decide (a2 < (((rd_T38 t257 t250).f1).length : Int)) = true := decide_eq_true c54
   clear c54
   obtain ⟨y267, hy267⟩ : ∃ y_ : List Int, y_ = (((rd_T38 t257 t250).f1).set (a2 : Int).toNat 0) := ⟨_, rfl⟩
   replace H : ((some (t257.set (t250 : Int).toNat (⟨(rd_T38 t257 t250).f0, y267⟩ : S38) : List (S38))).bind fun y269 => (if a3.toList = ([] : List UInt8) then (some (x261000_30, y269, true)) else ((spec_l2Put.f kj30 x261000_30 a3).bind fun bt270 => (if bt270.2.2 = true then (if a2 < (((rd_T38 y269 t250).f1).length : Int) then (some (bt270.1, (y269.set (t250 : Int).toNat (⟨(rd_T38 y269 t250).f0, (((rd_T38 y269 t250).f1).set (a2 : Int).toNat bt270.2.1)⟩ : S38)), true)) else (none)) else (some (l0_0, l0_1, false)))))) = some (r1, r2, r3) := hY hy267 H
   have Ny267 := am hy267
   clear hy267
   obtain ⟨y269, hy269⟩ : ∃ y_ : List (S38), y_ = (t257.set (t250 : Int).toNat (⟨(rd_T38 t257 t250).f0, y267⟩ : S38)) := ⟨_, rfl⟩
   replace H : (if a3.toList = ([] : List UInt8) then (some (x261000_30, y269, true)) else ((spec_l2Put.f kj30 x261000_30 a3).bind fun bt270 => (if bt270.2.2 = true then (if a2 < (((rd_T38 y269 t250).f1).length : Int) then (some (bt270.1, (y269.set (t250 : Int).toNat (⟨(rd_T38 y269 t250).f0, (((rd_T38 y269 t250).f1).set (a2 : Int).toNat bt270.2.1)⟩ : S38)), true)) else (none)) else (some (l0_0, l0_1, false))))) = some (r1, r2, r3) := hY hy269 H
   have Ny269 := am hy269
   clear hy269
   by_cases c56 : a3.toList = ([] : List UInt8)
   · rw [if_pos c56] at H
     have c56b0 : (a3.toList == ([] : List UInt8)) = true := beq_iff_eq.mpr c56
     have c56b1 : (a3.toList != ([] : List UInt8)) = false := bne_eq_false_iff_eq.mpr c56
     clear c56
     simp only [Option.some.injEq, Prod.mk.injEq] at H
     obtain ⟨rfl, rfl, rfl⟩ := H
     have hnb57 := NB260_248.out
     have hnc57 := NB248_260.out
     have hnb58 := NB260_249.out
     have hnc58 := NB249_260.out
     have hcz59_0 := ce0 BK260
     have hcz59_1 := ce1 BK260
     have hfz59_0 := bfz BK260 0
     have hfz59_1 := bfz BK260 1
     have p266 : 0 ≤ (t250 : Int) := of_decide_eq_true zl
     have q266 : t250 < (t257.length : Int) := of_decide_eq_true zl
     obtain ⟨ad266, A266_1, c266_1, e266, hx266_0, hx266_1, hl266_1, hi266_1⟩ := at_T38 (Kd.S_reads' HO_261001.out).2.2 t250 p266 q266
     obtain rfl : ad261 = ad266 := (by injection e266)
     obtain ⟨ce266, hce266, hMe266, hcc266⟩ := Kd.S_get HO_261001.out z38 t250 p266 (by first | exact q266 | exact of_decide_eq_true zl | (have e_ := (Kd.S_reads' HO_261001.out).1; omega))
     obtain ⟨ve266_1, rfl, ge266_1⟩ := k38_openM hMe266
     have hv266_1 := hcc266 1 _ rfl
     rw [add_field _ _ 1 (by omega)] at hv266_1
     replace hv266_1 := Option.some.inj (hv266_1.symm.trans hx266_1)
     rw [hv266_1] at ge266_1
     have HL266_1 := am (show Kd.R (Kd.int .i64) 3 _ _ _ _ ((rd_T38 t257 t250).f1) from ge266_1)
     clear hv266_1 ge266_1
     have HX266_1 := am hx266_1
     clear hcc266 hce266
     have HR266_1 := am hi266_1
     have HC266_1 := am hl266_1
     clear hi266_1 hl266_1
     replace p266 := eq_true p266
     replace q266 := eq_true q266
     have p55 : 0 ≤ (a2 : Int) := of_decide_eq_true zl
     have q55 : (a2 : Int) < ((((rd_T38 t257 t250).f1).length : Int) : Int) := of_decide_eq_true zl
     obtain ⟨go55, co55, eo55, gb55, gl55, cl55, HG55⟩ := Kd.R_form HL266_1.out (by omega)
     (first | cases eo55 | (injection eo55 with ea_ en_ ec_; (first | subst ea_ | (injection ea_ with ea_; subst ea_)); subst ec_; clear en_))
     have GB55 := am gb55
     have GG55 := am HG55
     clear gb55 gl55 HG55
     obtain ⟨hx55_0, hf55_0⟩ := Kd.R_celln 0 HL266_1.out (a2 : Int) p55 q55
     replace p55 := eq_true p55
     replace q55 := eq_true q55
     have hq60 : (t250 : Int) < (t257.length : Int) := (by have h_ : (t250 : Int) < ((t257.length : Int) : Int) := of_decide_eq_true zl; first | exact h_ | (have e_ := (Kd.S_reads' HO_261001.out).1; omega) | simpa only [List.length_set, List.length_set] using h_)
     obtain ⟨oki60, ce60, hcl60, hM60, hcc60, hok60, hbk60⟩ := Kd.S_borrow HO_261001.out z38 (t250 : Int) (of_decide_eq_true zl) (by first | exact hq60 | (have e_ := (Kd.S_reads' HO_261001.out).1; have h_ := hq60; omega))
     obtain ⟨ve60_1, rfl, ge60_1⟩ := k38_openM hM60
     have hv60 := hcc60 1 _ rfl
     rw [add_field _ _ 1 (by omega)] at hv60
     replace hv60 := Option.some.inj (hv60.symm.trans HX266_1.out)
     subst hv60
     clear hcc60 hcl60
     replace ge60_1 := (show Kd.R (Kd.int .i64) 3 _ _ _ _ ((rd_T38 t257 t250).f1) from ge60_1)
     have HP60 := Kd.R_putg ge60_1 (a2 : Int) 0
     go_wp2_with (first | ((with_reducible refine gate_store (t := 3) (p := 65) rfl ?_); refine store_event (t := 3) (p := 65) (v := ?vo_w61) (w1 := (wc.setCell ⟨go55, (a2 : Int).toNat, none⟩ (.int .i64 0))) ?hg ?ho ?hn ?hr ?_; (case ho => rfl); (case hg => rfl); (case hn => rfl); (case hr => first | (go_simp; done) | (go_simp; rfl)); intro w61 hw; have hg : wc.grownBy w61 (some go55) := (by rw [hw]; exact HP60.2); have hz_ : Kd.R (Kd.int .i64) 3 w61 w.heap.size oki60 (.slice (some ⟨go55, 0, none⟩) ((rd_T38 t257 t250).f1).length c266_1) y267 := (by rw [hw, Ny267.out]; exact HP60.1); have hp_ : Kd.S k38 38 w61 w.heap.size (fun _ => True) (.slice (some ad261) t257.length co40) y269 := (by rw [Ny269.out]; exact hbk60 hg (fun k_ e_ => by injection e_ with e_; subst e_; exact ge60_1.1 _ rfl) (k38_mkM _ _ _ (⟨(rd_T38 t257 t250).f0, y267⟩ : S38) hz_)); have hm_ := Kd.R_mono hz_ hok60; clear HP60 hbk60; replace HO_261000 := am (Kd.R_over' (v := (.slice (some ⟨go55, 0, none⟩) ((rd_T38 t257 t250).f1).length c266_1)) (zr HO_261000) (Kd.R_typed HL266_1.out) (by decide) hg); replace HO_261001 := am (hp_); replace BK248 := am (blk_grown (zk BK248) hg (Kd.R_ne HL266_1.out BK248.out (by decide))); replace BK249 := am (blk_grown (zk BK249) hg (Kd.R_ne HL266_1.out BK249.out (by decide))); replace BK260 := am (blk_grown (zk BK260) hg (Kd.R_ne HL266_1.out BK260.out (by decide))); replace HB := am ((by rw [hw]; exact below_set (HB.out) GB55.out : Below w.heap.size w w61)); have HL279 := am (hm_); have HC268 := am ((Kd.R_reads' hm_).2.1); clear HL266_1; clear hg hw hp_ hz_ hm_ hok60; have hcz62_0 := ce0 BK260; have hcz62_1 := ce1 BK260; have hfz62_0 := bfz BK260 0; have hfz62_1 := bfz BK260 1; obtain ⟨Ao63, co63, eo63⟩ := Kd.R_slice HO_261000.out; subst eo63; have hnb64 := NB249_248.out; have hnc64 := NB248_249.out; have hcz65_0 := ce0 BK249; have hcz65_1 := ce1 BK249; have hfz65_0 := bfz BK249 0; have hfz65_1 := bfz BK249 1))
     refine bodyPost_ret (results_ct rfl _ _ gb249 31 #[.slice Ao63 x261000_30.length co63, .slice (some ad261) t257.length co40] (0, 0) _ rfl (zp BK249) Try.underlying31 rfl (by kernel_rfl)) rfl ?_
     exact ⟨_, _, zw, (Kd.R_lower (base := w.heap.size) (by (with_reducible repeat (first | apply Kd.R_alloc | apply Kd.R_drewN | apply Kd.R_drew)); exact Kd.R_mono (Kd.R_far (p := ⟨gb249, 1, none⟩) (Kd.R_far (p := ⟨gb249, 0, none⟩) (Kd.R_types HO_261000.out BK249.out (by decide)) (fun _ hk => hk.2) (.slice Ao63 x261000_30.length co63)) (fun _ hk => hk.2) (.slice (some ad261) t257.length co40)) (fun _ hk => trivial)) hb_), (Kd.S_lower (base := w.heap.size) (by (with_reducible repeat (first | apply Kd.S_alloc | apply Kd.S_drewN | apply Kd.S_drew)); exact Kd.S_mono (Kd.S_far (p := ⟨gb249, 1, none⟩) (Kd.S_far (p := ⟨gb249, 0, none⟩) (Kd.S_types HO_261001.out BK249.out (by decide)) (fun _ hk => hk.2) (.slice Ao63 x261000_30.length co63)) (fun _ hk => hk.2) (.slice (some ad261) t257.length co40)) (fun _ hk => trivial)) hb_), (zb HB)⟩
   rw [if_neg c56] at H
   have c56b0 : (a3.toList == ([] : List UInt8)) = false := beq_eq_false_iff_ne.mpr c56
   have c56b1 : (a3.toList != ([] : List UInt8)) = true := bne_iff_ne.mpr c56
   replace H := obs H
   obtain ⟨⟨t270, t273, t274⟩, A660, H⟩ := H
   replace H : (if t274 = true then (if a2 < (((rd_T38 y269 t250).f1).length : Int) then (some (t270, (y269.set (t250 : Int).toNat (⟨(rd_T38 y269 t250).f0, (((rd_T38 y269 t250).f1).set (a2 : Int).toNat t273)⟩ : S38)), true)) else (none)) else (some (l0_0, l0_1, false))) = some (r1, r2, r3) := H
   have A66 := am A660
   clear A660
   by_cases c67 : t274 = true
   rotate_left
   · replace c67 := Bool.eq_false_iff.mpr c67
     subst c67
     have H1 : (some (l0_0, l0_1, false)) = some (r1, r2, r3) := by rw [if_neg (show ¬ (false = true) by decide)] at H; exact H
     clear H
     have H := H1
     clear H1
     simp only [Option.some.injEq, Prod.mk.injEq] at H
     obtain ⟨rfl, rfl, rfl⟩ := H
     have hnb87 := NB260_248.out
     have hnc87 := NB248_260.out
     have hnb88 := NB260_249.out
     have hnc88 := NB249_260.out
     have hcz89_0 := ce0 BK260
     have hcz89_1 := ce1 BK260
     have hfz89_0 := bfz BK260 0
     have hfz89_1 := bfz BK260 1
     have p266 : 0 ≤ (t250 : Int) := of_decide_eq_true zl
     have q266 : t250 < (t257.length : Int) := of_decide_eq_true zl
     obtain ⟨ad266, A266_1, c266_1, e266, hx266_0, hx266_1, hl266_1, hi266_1⟩ := at_T38 (Kd.S_reads' HO_261001.out).2.2 t250 p266 q266
     obtain rfl : ad261 = ad266 := (by injection e266)
     obtain ⟨ce266, hce266, hMe266, hcc266⟩ := Kd.S_get HO_261001.out z38 t250 p266 (by first | exact q266 | exact of_decide_eq_true zl | (have e_ := (Kd.S_reads' HO_261001.out).1; omega))
     obtain ⟨ve266_1, rfl, ge266_1⟩ := k38_openM hMe266
     have hv266_1 := hcc266 1 _ rfl
     rw [add_field _ _ 1 (by omega)] at hv266_1
     replace hv266_1 := Option.some.inj (hv266_1.symm.trans hx266_1)
     rw [hv266_1] at ge266_1
     have HL266_1 := am (show Kd.R (Kd.int .i64) 3 _ _ _ _ ((rd_T38 t257 t250).f1) from ge266_1)
     clear hv266_1 ge266_1
     have HX266_1 := am hx266_1
     clear hcc266 hce266
     have HR266_1 := am hi266_1
     have HC266_1 := am hl266_1
     clear hi266_1 hl266_1
     replace p266 := eq_true p266
     replace q266 := eq_true q266
     have p55 : 0 ≤ (a2 : Int) := of_decide_eq_true zl
     have q55 : (a2 : Int) < ((((rd_T38 t257 t250).f1).length : Int) : Int) := of_decide_eq_true zl
     obtain ⟨go55, co55, eo55, gb55, gl55, cl55, HG55⟩ := Kd.R_form HL266_1.out (by omega)
     (first | cases eo55 | (injection eo55 with ea_ en_ ec_; (first | subst ea_ | (injection ea_ with ea_; subst ea_)); subst ec_; clear en_))
     have GB55 := am gb55
     have GG55 := am HG55
     clear gb55 gl55 HG55
     obtain ⟨hx55_0, hf55_0⟩ := Kd.R_celln 0 HL266_1.out (a2 : Int) p55 q55
     replace p55 := eq_true p55
     replace q55 := eq_true q55
     have hq90 : (t250 : Int) < (t257.length : Int) := (by have h_ : (t250 : Int) < ((t257.length : Int) : Int) := of_decide_eq_true zl; first | exact h_ | (have e_ := (Kd.S_reads' HO_261001.out).1; omega) | simpa only [List.length_set, List.length_set] using h_)
     obtain ⟨oki90, ce90, hcl90, hM90, hcc90, hok90, hbk90⟩ := Kd.S_borrow HO_261001.out z38 (t250 : Int) (of_decide_eq_true zl) (by first | exact hq90 | (have e_ := (Kd.S_reads' HO_261001.out).1; have h_ := hq90; omega))
     obtain ⟨ve90_1, rfl, ge90_1⟩ := k38_openM hM90
     have hv90 := hcc90 1 _ rfl
     rw [add_field _ _ 1 (by omega)] at hv90
     replace hv90 := Option.some.inj (hv90.symm.trans HX266_1.out)
     subst hv90
     clear hcc90 hcl90
     replace ge90_1 := (show Kd.R (Kd.int .i64) 3 _ _ _ _ ((rd_T38 t257 t250).f1) from ge90_1)
     have HP90 := Kd.R_putg ge90_1 (a2 : Int) 0
     go_wp2_with (first | ((with_reducible refine gate_store (t := 3) (p := 65) rfl ?_); refine store_event (t := 3) (p := 65) (v := ?vo_w91) (w1 := (wc.setCell ⟨go55, (a2 : Int).toNat, none⟩ (.int .i64 0))) ?hg ?ho ?hn ?hr ?_; (case ho => rfl); (case hg => rfl); (case hn => rfl); (case hr => first | (go_simp; done) | (go_simp; rfl)); intro w91 hw; have hg : wc.grownBy w91 (some go55) := (by rw [hw]; exact HP90.2); have hz_ : Kd.R (Kd.int .i64) 3 w91 w.heap.size oki90 (.slice (some ⟨go55, 0, none⟩) ((rd_T38 t257 t250).f1).length c266_1) y267 := (by rw [hw, Ny267.out]; exact HP90.1); have hp_ : Kd.S k38 38 w91 w.heap.size (fun _ => True) (.slice (some ad261) t257.length co40) y269 := (by rw [Ny269.out]; exact hbk90 hg (fun k_ e_ => by injection e_ with e_; subst e_; exact ge90_1.1 _ rfl) (k38_mkM _ _ _ (⟨(rd_T38 t257 t250).f0, y267⟩ : S38) hz_)); have hm_ := Kd.R_mono hz_ hok90; clear HP90 hbk90; replace HO_261000 := am (Kd.R_over' (v := (.slice (some ⟨go55, 0, none⟩) ((rd_T38 t257 t250).f1).length c266_1)) (zr HO_261000) (Kd.R_typed HL266_1.out) (by decide) hg); replace HO_261001 := am (hp_); replace BK248 := am (blk_grown (zk BK248) hg (Kd.R_ne HL266_1.out BK248.out (by decide))); replace BK249 := am (blk_grown (zk BK249) hg (Kd.R_ne HL266_1.out BK249.out (by decide))); replace BK260 := am (blk_grown (zk BK260) hg (Kd.R_ne HL266_1.out BK260.out (by decide))); replace HB := am ((by rw [hw]; exact below_set (HB.out) GB55.out : Below w.heap.size w w91)); have HL282 := am (hm_); have HC268 := am ((Kd.R_reads' hm_).2.1); clear HL266_1; clear hg hw hp_ hz_ hm_ hok90; have hcz92_0 := ce0 BK260; have hcz92_1 := ce1 BK260; have hfz92_0 := bfz BK260 0; have hfz92_1 := bfz BK260 1; obtain ⟨Ao93, co93, eo93⟩ := Kd.R_slice HO_261000.out; subst eo93) | ((with_reducible refine gate_callee (f := 97) rfl ?_); refine gl Try.func97 73 #[.slice Ao93 x261000_30.length co93, .string a3] rfl rfl rfl ?_; (with_reducible refine (spec_l2Put.calls kj30 (fun k_ => some k_ = (.slice Ao93 x261000_30.length co93 : Value).ownBlock) (.slice Ao93 x261000_30.length co93) x261000_30 a3 t270 t273 false w _ ?side1 ?side2 A66.out).mono ?_); (case side1 => exact zb HB); (case side2 => exact Kd.R_tight rfl HO_261000.out); rintro e w94 ⟨v271, rfl, ho0, hb, hkp⟩; refine ⟨_, rfl, ?_⟩; replace HO_261001 := am (Kd.S_mono (ok' := fun k_ => True) (Kd.S_keptB ((Kd.S_apart' HO_261001.out (Kd.R_typed HO_261000.out) (by decide))) hkp (fun k_ hk_ hs_ => (hk_.2) hs_)) (fun k_ hk_ => trivial)); replace BK248 := am (blk_kept (zk BK248) hkp (fun hs_ => (fun e_ => (Kd.R_ne HO_261000.out BK248.out (by decide)) e_) hs_)); replace BK249 := am (blk_kept (zk BK249) hkp (fun hs_ => (fun e_ => (Kd.R_ne HO_261000.out BK249.out (by decide)) e_) hs_)); replace BK260 := am (blk_kept (zk BK260) hkp (fun hs_ => (fun e_ => (Kd.R_ne HO_261000.out BK260.out (by decide)) e_) hs_)); have HO272 := am (Kd.R_mono (ok' := fun k_ => True) ho0 (fun k_ hk_ => trivial)); replace HB := am (hb); clear HO_261000 HL282; (try clear hb); (try clear hkp); (try clear ho0); have hnb95 := NB248_249.out; have hnc95 := NB249_248.out; have hcz96_0 := ce0 BK248; have hcz96_1 := ce1 BK248; have hfz96_0 := bfz BK248 0; have hfz96_1 := bfz BK248 1; have hcz97_0 := ce0 BK249; have hcz97_1 := ce1 BK249; have hfz97_0 := bfz BK249 0; have hfz97_1 := bfz BK249 1))
     refine bodyPost_ret (results_ct rfl _ _ gb249 31 #[.slice A0_0 l0_0.length c0_0, .slice A0_1 l0_1.length c0_1] (0, 0) _ rfl (zp BK249) Try.underlying31 rfl (by kernel_rfl)) rfl ?_
     exact ⟨_, _, zw, (Kd.R_below hq0_0 (zb HB)), (Kd.S_below hq0_1 (zb HB)), (zb HB)⟩
   subst c67
   have H1 : (if a2 < (((rd_T38 y269 t250).f1).length : Int) then (some (t270, (y269.set (t250 : Int).toNat (⟨(rd_T38 y269 t250).f0, (((rd_T38 y269 t250).f1).set (a2 : Int).toNat t273)⟩ : S38)), true)) else (none)) = some (r1, r2, r3) := by rw [if_pos rfl] at H; exact H
   clear H
   have H := H1
   clear H1
   by_cases c68 : a2 < (((rd_T38 y269 t250).f1).length : Int)
   rotate_left
   · rw [if_neg c68] at H
     exact absurd H (by simp)
   rw [if_pos c68] at H
   have c68b0 : decide (a2 < (((rd_T38 y269 t250).f1).length : Int)) = true := decide_eq_true c68
   clear c68
   obtain ⟨y276, hy276⟩ : ∃ y_ : List Int, y_ = (((rd_T38 y269 t250).f1).set (a2 : Int).toNat t273) := ⟨_, rfl⟩
   replace H : (some (t270, (y269.set (t250 : Int).toNat (⟨(rd_T38 y269 t250).f0, y276⟩ : S38)), true)) = some (r1, r2, r3) := hY hy276 H
   have Ny276 := am hy276
   clear hy276
   obtain ⟨y278, hy278⟩ : ∃ y_ : List (S38), y_ = (y269.set (t250 : Int).toNat (⟨(rd_T38 y269 t250).f0, y276⟩ : S38)) := ⟨_, rfl⟩
   replace H : (some (t270, y278, true)) = some (r1, r2, r3) := hY hy278 H
   have Ny278 := am hy278
   clear hy278
   simp only [Option.some.injEq, Prod.mk.injEq] at H
   obtain ⟨rfl, rfl, rfl⟩ := H
   have hnb70 := NB260_248.out
   have hnc70 := NB248_260.out
   have hnb71 := NB260_249.out
   have hnc71 := NB249_260.out
   have hcz72_0 := ce0 BK260
   have hcz72_1 := ce1 BK260
   have hfz72_0 := bfz BK260 0
   have hfz72_1 := bfz BK260 1
   have p266 : 0 ≤ (t250 : Int) := of_decide_eq_true zl
   have q266 : t250 < (t257.length : Int) := of_decide_eq_true zl
   obtain ⟨ad266, A266_1, c266_1, e266, hx266_0, hx266_1, hl266_1, hi266_1⟩ := at_T38 (Kd.S_reads' HO_261001.out).2.2 t250 p266 q266
   obtain rfl : ad261 = ad266 := (by injection e266)
   obtain ⟨ce266, hce266, hMe266, hcc266⟩ := Kd.S_get HO_261001.out z38 t250 p266 (by first | exact q266 | exact of_decide_eq_true zl | (have e_ := (Kd.S_reads' HO_261001.out).1; omega))
   obtain ⟨ve266_1, rfl, ge266_1⟩ := k38_openM hMe266
   have hv266_1 := hcc266 1 _ rfl
   rw [add_field _ _ 1 (by omega)] at hv266_1
   replace hv266_1 := Option.some.inj (hv266_1.symm.trans hx266_1)
   rw [hv266_1] at ge266_1
   have HL266_1 := am (show Kd.R (Kd.int .i64) 3 _ _ _ _ ((rd_T38 t257 t250).f1) from ge266_1)
   clear hv266_1 ge266_1
   have HX266_1 := am hx266_1
   clear hcc266 hce266
   have HR266_1 := am hi266_1
   have HC266_1 := am hl266_1
   clear hi266_1 hl266_1
   replace p266 := eq_true p266
   replace q266 := eq_true q266
   have p55 : 0 ≤ (a2 : Int) := of_decide_eq_true zl
   have q55 : (a2 : Int) < ((((rd_T38 t257 t250).f1).length : Int) : Int) := of_decide_eq_true zl
   obtain ⟨go55, co55, eo55, gb55, gl55, cl55, HG55⟩ := Kd.R_form HL266_1.out (by omega)
   (first | cases eo55 | (injection eo55 with ea_ en_ ec_; (first | subst ea_ | (injection ea_ with ea_; subst ea_)); subst ec_; clear en_))
   have GB55 := am gb55
   have GG55 := am HG55
   clear gb55 gl55 HG55
   obtain ⟨hx55_0, hf55_0⟩ := Kd.R_celln 0 HL266_1.out (a2 : Int) p55 q55
   replace p55 := eq_true p55
   replace q55 := eq_true q55
   have hq73 : (t250 : Int) < (t257.length : Int) := (by have h_ : (t250 : Int) < ((t257.length : Int) : Int) := of_decide_eq_true zl; first | exact h_ | (have e_ := (Kd.S_reads' HO_261001.out).1; omega) | simpa only [List.length_set, List.length_set] using h_)
   obtain ⟨oki73, ce73, hcl73, hM73, hcc73, hok73, hbk73⟩ := Kd.S_borrow HO_261001.out z38 (t250 : Int) (of_decide_eq_true zl) (by first | exact hq73 | (have e_ := (Kd.S_reads' HO_261001.out).1; have h_ := hq73; omega))
   obtain ⟨ve73_1, rfl, ge73_1⟩ := k38_openM hM73
   have hv73 := hcc73 1 _ rfl
   rw [add_field _ _ 1 (by omega)] at hv73
   replace hv73 := Option.some.inj (hv73.symm.trans HX266_1.out)
   subst hv73
   clear hcc73 hcl73
   replace ge73_1 := (show Kd.R (Kd.int .i64) 3 _ _ _ _ ((rd_T38 t257 t250).f1) from ge73_1)
   have HP73 := Kd.R_putg ge73_1 (a2 : Int) 0
   go_wp2_with (first | ((with_reducible refine gate_store (t := 3) (p := 65) rfl ?_); refine store_event (t := 3) (p := 65) (v := ?vo_w74) (w1 := (wc.setCell ⟨go55, (a2 : Int).toNat, none⟩ (.int .i64 0))) ?hg ?ho ?hn ?hr ?_; (case ho => rfl); (case hg => rfl); (case hn => rfl); (case hr => first | (go_simp; done) | (go_simp; rfl)); intro w74 hw; have hg : wc.grownBy w74 (some go55) := (by rw [hw]; exact HP73.2); have hz_ : Kd.R (Kd.int .i64) 3 w74 w.heap.size oki73 (.slice (some ⟨go55, 0, none⟩) ((rd_T38 t257 t250).f1).length c266_1) y267 := (by rw [hw, Ny267.out]; exact HP73.1); have hp_ : Kd.S k38 38 w74 w.heap.size (fun _ => True) (.slice (some ad261) t257.length co40) y269 := (by rw [Ny269.out]; exact hbk73 hg (fun k_ e_ => by injection e_ with e_; subst e_; exact ge73_1.1 _ rfl) (k38_mkM _ _ _ (⟨(rd_T38 t257 t250).f0, y267⟩ : S38) hz_)); have hm_ := Kd.R_mono hz_ hok73; clear HP73 hbk73; replace HO_261000 := am (Kd.R_over' (v := (.slice (some ⟨go55, 0, none⟩) ((rd_T38 t257 t250).f1).length c266_1)) (zr HO_261000) (Kd.R_typed HL266_1.out) (by decide) hg); replace HO_261001 := am (hp_); replace BK248 := am (blk_grown (zk BK248) hg (Kd.R_ne HL266_1.out BK248.out (by decide))); replace BK249 := am (blk_grown (zk BK249) hg (Kd.R_ne HL266_1.out BK249.out (by decide))); replace BK260 := am (blk_grown (zk BK260) hg (Kd.R_ne HL266_1.out BK260.out (by decide))); replace HB := am ((by rw [hw]; exact below_set (HB.out) GB55.out : Below w.heap.size w w74)); have HL280 := am (hm_); have HC268 := am ((Kd.R_reads' hm_).2.1); clear HL266_1; clear hg hw hp_ hz_ hm_ hok73; have hcz75_0 := ce0 BK260; have hcz75_1 := ce1 BK260; have hfz75_0 := bfz BK260 0; have hfz75_1 := bfz BK260 1; obtain ⟨Ao76, co76, eo76⟩ := Kd.R_slice HO_261000.out; subst eo76) | ((with_reducible refine gate_callee (f := 97) rfl ?_); refine gl Try.func97 73 #[.slice Ao76 x261000_30.length co76, .string a3] rfl rfl rfl ?_; (with_reducible refine (spec_l2Put.calls kj30 (fun k_ => some k_ = (.slice Ao76 x261000_30.length co76 : Value).ownBlock) (.slice Ao76 x261000_30.length co76) x261000_30 a3 t270 t273 true w _ ?side1 ?side2 A66.out).mono ?_); (case side1 => exact zb HB); (case side2 => exact Kd.R_tight rfl HO_261000.out); rintro e w77 ⟨v271, rfl, ho0, hb, hkp⟩; refine ⟨_, rfl, ?_⟩; replace HO_261001 := am (Kd.S_mono (ok' := fun k_ => True) (Kd.S_keptB ((Kd.S_apart' HO_261001.out (Kd.R_typed HO_261000.out) (by decide))) hkp (fun k_ hk_ hs_ => (hk_.2) hs_)) (fun k_ hk_ => trivial)); replace BK248 := am (blk_kept (zk BK248) hkp (fun hs_ => (fun e_ => (Kd.R_ne HO_261000.out BK248.out (by decide)) e_) hs_)); replace BK249 := am (blk_kept (zk BK249) hkp (fun hs_ => (fun e_ => (Kd.R_ne HO_261000.out BK249.out (by decide)) e_) hs_)); replace BK260 := am (blk_kept (zk BK260) hkp (fun hs_ => (fun e_ => (Kd.R_ne HO_261000.out BK260.out (by decide)) e_) hs_)); have HO272 := am (Kd.R_mono (ok' := fun k_ => True) ho0 (fun k_ hk_ => trivial)); replace HB := am (hb); clear HO_261000 HL280; (try clear hb); (try clear hkp); (try clear ho0); obtain ⟨Ao78, co78, eo78⟩ := Kd.R_slice HO272.out; subst eo78; have hcz79_0 := ce0 BK260; have hcz79_1 := ce1 BK260; have hfz79_0 := bfz BK260 0; have hfz79_1 := bfz BK260 1) | ((with_reducible refine gate_store (t := 28) (p := 81) rfl ?_); refine store_event (t := 28) (p := 81) (v := ?vo_w80) (w1 := (w77.setCell ⟨gb260, 0, none⟩ (.slice Ao78 t270.length co78))) ?hg ?ho ?hn ?hr ?_; (case ho => rfl); (case hg => rfl); (case hn => rfl); (case hr => first | (go_simp; done) | (go_simp; rfl)); intro w80 hw; replace HO_261001 : Aside0 (Kd.S k38 38 w80 w.heap.size (fun _ => True) (.slice (some ad261) t257.length co40) y269) := ⟨(by rw [hw]; exact (by (with_reducible repeat (first | apply Kd.S_alloc | apply Kd.S_drewN | apply Kd.S_drew)); exact Kd.S_mono (Kd.S_far (p := ⟨gb260, 0, none⟩) (Kd.S_types HO_261001.out BK260.out (by decide)) (fun _ hk => hk.2) (.slice Ao78 t270.length co78)) (fun _ hk => trivial)))⟩; replace HO272 : Aside0 (Kd.R k55 55 w80 w.heap.size (fun _ => True) (.slice Ao78 t270.length co78) t270) := ⟨(by rw [hw]; exact (by (with_reducible repeat (first | apply Kd.R_alloc | apply Kd.R_drewN | apply Kd.R_drew)); exact Kd.R_mono (Kd.R_far (p := ⟨gb260, 0, none⟩) (Kd.R_types HO272.out BK260.out (by decide)) (fun _ hk => hk.2) (.slice Ao78 t270.length co78)) (fun _ hk => trivial)))⟩; replace BK248 : Aside0 (w80.heap[gb248]? = some (.cells #[.slice A0_0 l0_0.length c0_0, .slice A0_1 l0_1.length c0_1] 31 (0, 0))) := ⟨(by rw [hw]; exact (zk BK248))⟩; replace BK249 : Aside0 (w80.heap[gb249]? = some (.cells #[.slice none 0 0, .slice none 0 0] 31 (0, 0))) := ⟨(by rw [hw]; exact (zk BK249))⟩; replace BK260 : Aside0 (w80.heap[gb260]? = some (.cells #[.slice Ao78 t270.length co78, .slice (some ad261) t257.length co40] 31 (0, 0))) := ⟨(by rw [hw]; exact (zp BK260))⟩; replace HB : Aside0 (Below w.heap.size w w80) := ⟨(by rw [hw]; exact (zb HB))⟩; clear hw; have hcz81_0 := ce0 BK260; have hcz81_1 := ce1 BK260; have hfz81_0 := bfz BK260 0; have hfz81_1 := bfz BK260 1; have p275 : 0 ≤ (t250 : Int) := of_decide_eq_true zl; have q275 : t250 < (y269.length : Int) := (by have h_ : (t250 : Int) < ((t257.length : Int) : Int) := of_decide_eq_true zl; first | (have e_ := (Kd.S_reads' HO_261001.out).1; omega) | simpa only [Ny269.out, List.length_set] using h_); have ql275 : ((t250 : Int) < ((t257.length : Int) : Int)) = True := eq_true (of_decide_eq_true zl); obtain ⟨ad275, A275_1, c275_1, e275, hx275_0, hx275_1, hl275_1, hi275_1⟩ := at_T38 (Kd.S_reads' HO_261001.out).2.2 t250 p275 q275; obtain rfl : ad261 = ad275 := (by injection e275); obtain ⟨ce275, hce275, hMe275, hcc275⟩ := Kd.S_get HO_261001.out z38 t250 p275 (by first | exact q275 | exact of_decide_eq_true zl | (have e_ := (Kd.S_reads' HO_261001.out).1; omega)); obtain ⟨ve275_1, rfl, ge275_1⟩ := k38_openM hMe275; have hv275_1 := hcc275 1 _ rfl; rw [add_field _ _ 1 (by omega)] at hv275_1; replace hv275_1 := Option.some.inj (hv275_1.symm.trans hx275_1); rw [hv275_1] at ge275_1; have HL275_1 := am (show Kd.R (Kd.int .i64) 3 _ _ _ _ ((rd_T38 y269 t250).f1) from ge275_1); clear hv275_1 ge275_1; have HX275_1 := am hx275_1; clear hcc275 hce275; have HR275_1 := am hi275_1; have HC275_1 := am hl275_1; clear hi275_1 hl275_1; replace p275 := eq_true p275; replace q275 := eq_true q275; have p69 : 0 ≤ (a2 : Int) := of_decide_eq_true zl; have q69 : (a2 : Int) < ((((rd_T38 y269 t250).f1).length : Int) : Int) := of_decide_eq_true zl; obtain ⟨go69, co69, eo69, gb69, gl69, cl69, HG69⟩ := Kd.R_form HL275_1.out (by omega); (first | cases eo69 | (injection eo69 with ea_ en_ ec_; (first | subst ea_ | (injection ea_ with ea_; subst ea_)); subst ec_; clear en_)); have GB69 := am gb69; have GG69 := am HG69; clear gb69 gl69 HG69; obtain ⟨hx69_0, hf69_0⟩ := Kd.R_celln 0 HL275_1.out (a2 : Int) p69 q69; replace p69 := eq_true p69; replace q69 := eq_true q69; have hq82 : (t250 : Int) < (y269.length : Int) := (by have h_ : (t250 : Int) < ((t257.length : Int) : Int) := of_decide_eq_true zl; first | exact h_ | (have e_ := (Kd.S_reads' HO_261001.out).1; omega) | simpa only [Ny269.out, List.length_set] using h_); obtain ⟨oki82, ce82, hcl82, hM82, hcc82, hok82, hbk82⟩ := Kd.S_borrow HO_261001.out z38 (t250 : Int) (of_decide_eq_true zl) (by first | exact hq82 | (have e_ := (Kd.S_reads' HO_261001.out).1; have h_ := hq82; omega)); obtain ⟨ve82_1, rfl, ge82_1⟩ := k38_openM hM82; have hv82 := hcc82 1 _ rfl; rw [add_field _ _ 1 (by omega)] at hv82; replace hv82 := Option.some.inj (hv82.symm.trans HX275_1.out); subst hv82; clear hcc82 hcl82; replace ge82_1 := (show Kd.R (Kd.int .i64) 3 _ _ _ _ ((rd_T38 y269 t250).f1) from ge82_1); have HP82 := Kd.R_putg ge82_1 (a2 : Int) t273) | ((with_reducible refine gate_store (t := 3) (p := 90) rfl ?_); refine store_event (t := 3) (p := 90) (v := ?vo_w83) (w1 := (w80.setCell ⟨go69, (a2 : Int).toNat, none⟩ (.int .i64 t273))) ?hg ?ho ?hn ?hr ?_; (case ho => rfl); (case hg => rfl); (case hn => rfl); (case hr => first | (go_simp; done) | (go_simp; rfl)); intro w83 hw; have hg : w80.grownBy w83 (some go69) := (by rw [hw]; exact HP82.2); have hz_ : Kd.R (Kd.int .i64) 3 w83 w.heap.size oki82 (.slice (some ⟨go69, 0, none⟩) ((rd_T38 y269 t250).f1).length c275_1) y276 := (by rw [hw, Ny276.out]; exact HP82.1); have hp_ : Kd.S k38 38 w83 w.heap.size (fun _ => True) (.slice (some ad261) t257.length co40) y278 := (by rw [Ny278.out]; exact hbk82 hg (fun k_ e_ => by injection e_ with e_; subst e_; exact ge82_1.1 _ rfl) (k38_mkM _ _ _ (⟨(rd_T38 y269 t250).f0, y276⟩ : S38) hz_)); have hm_ := Kd.R_mono hz_ hok82; clear HP82 hbk82; replace HO_261001 := am (hp_); replace BK248 := am (blk_grown (zk BK248) hg (Kd.R_ne HL275_1.out BK248.out (by decide))); replace BK249 := am (blk_grown (zk BK249) hg (Kd.R_ne HL275_1.out BK249.out (by decide))); replace BK260 := am (blk_grown (zk BK260) hg (Kd.R_ne HL275_1.out BK260.out (by decide))); replace HO272 := am (Kd.R_over' (v := (.slice (some ⟨go69, 0, none⟩) ((rd_T38 y269 t250).f1).length c275_1)) (zr HO272) (Kd.R_typed HL275_1.out) (by decide) hg); replace HB := am ((by rw [hw]; exact below_set (HB.out) GB69.out : Below w.heap.size w w83)); have HL281 := am (hm_); have HC277 := am ((Kd.R_reads' hm_).2.1); clear HL275_1; clear hg hw hp_ hz_ hm_ hok82; have hcz84_0 := ce0 BK260; have hcz84_1 := ce1 BK260; have hfz84_0 := bfz BK260 0; have hfz84_1 := bfz BK260 1; have hnb85 := NB249_248.out; have hnc85 := NB248_249.out; have hcz86_0 := ce0 BK249; have hcz86_1 := ce1 BK249; have hfz86_0 := bfz BK249 0; have hfz86_1 := bfz BK249 1))
   refine bodyPost_ret (results_ct rfl _ _ gb249 31 #[.slice Ao78 t270.length co78, .slice (some ad261) t257.length co40] (0, 0) _ rfl (zp BK249) Try.underlying31 rfl (by kernel_rfl)) rfl ?_
   exact ⟨_, _, zw, (Kd.R_lower (base := w.heap.size) (by (with_reducible repeat (first | apply Kd.R_alloc | apply Kd.R_drewN | apply Kd.R_drew)); exact Kd.R_mono (Kd.R_far (p := ⟨gb249, 1, none⟩) (Kd.R_far (p := ⟨gb249, 0, none⟩) (Kd.R_types HO272.out BK249.out (by decide)) (fun _ hk => hk.2) (.slice Ao78 t270.length co78)) (fun _ hk => hk.2) (.slice (some ad261) t257.length co40)) (fun _ hk => trivial)) hb_), (Kd.S_lower (base := w.heap.size) (by (with_reducible repeat (first | apply Kd.S_alloc | apply Kd.S_drewN | apply Kd.S_drew)); exact Kd.S_mono (Kd.S_far (p := ⟨gb249, 1, none⟩) (Kd.S_far (p := ⟨gb249, 0, none⟩) (Kd.S_types HO_261001.out BK249.out (by decide)) (fun _ hk => hk.2) (.slice Ao78 t270.length co78)) (fun _ hk => hk.2) (.slice (some ad261) t257.length co40)) (fun _ hk => trivial)) hb_), (zb HB)⟩
end Go.Proofs.Ytooamacekmjpaaa.PFnPoolText
