/- The walk: each function that the law comes to as a plain Lean function, and a proof that the Go code answers so. Written by this session's program over the kit's printer. -/
import Derived.Test.YtooamacekmjpaaaZ
import Derived.Test.YtooamacekmjpaaaQFnVolCount0
import Derived.Test.YtooamacekmjpaaaQFnVolCount1
import Derived.Test.YtooamacekmjpaaaQFnVolCount2
import Derived.Test.YtooamacekmjpaaaQFnVolCount3
namespace Go.Proofs.Ytooamacekmjpaaa.PFnVolCount
open Go.RowKit Go.Proofs.YtooamacekmjpaaaW.PrintWords Go.Proofs.YtooamacekmjpaaaW.PrintLast Go.Proofs.YtooamacekmjpaaaW.PrintMore
attribute [local go_sem] max2_int min2_int max_two min_two max_three min_three max_four min_four   -- for this text's walks alone
set_option linter.unusedVariables false
set_option linter.unusedSimpArgs false
/-! ### spec_l11Write: function 89 -/
mutual
def spec_l11Write.j0 : Nat → Int → ByteArray → Int → Bool → List (S55) → List (S38) → Option ((List (S55)) × (List (S38)) × Bool)
 | 0, _, _, _, _, _, _ => none
 | k + 1, x2, x3, x10, x38, x186000, x186001 => if x38 = true then (some (x186000, x186001, false)) else ((spec_l11Copy.f k x186000 x186001).bind fun bt191 => (if 0 ≤ x10 then (if x10 < (bt191.2.length : Int) then (if 0 ≤ x2 then (if x2 < (((rd_T38 bt191.2 x10).f1).length : Int) then (if (rd ((rd_T38 bt191.2 x10).f1) x2) > 0 then ((spec_l2Drop.f bt191.1 (rd ((rd_T38 bt191.2 x10).f1) x2)).bind fun t200 => (spec_l11Write.j1 k x2 x3 x10 x186000 x186001 t200 bt191.2)) else (spec_l11Write.j1 k x2 x3 x10 x186000 x186001 bt191.1 bt191.2)) else (none)) else (none)) else (none)) else (none)))
def spec_l11Write.j1 : Nat → Int → ByteArray → Int → List (S55) → List (S38) → List (S55) → List (S38) → Option ((List (S55)) × (List (S38)) × Bool)
 | 0, _, _, _, _, _, _, _ => none
 | k + 1, x2, x3, x10, x186000, x186001, x198000, x198001 => if 0 ≤ x10 then (if x10 < (x198001.length : Int) then (if 0 ≤ x2 then (if x2 < (((rd_T38 x198001 x10).f1).length : Int) then ((some (x198001.set (x10 : Int).toNat (⟨(rd_T38 x198001 x10).f0, (((rd_T38 x198001 x10).f1).set (x2 : Int).toNat 0)⟩ : S38) : List (S38))).bind fun y206 => (if x3.toList = ([] : List UInt8) then (some (x198000, y206, true)) else ((spec_l2Put.f k x198000 x3).bind fun bt207 => (if bt207.2.2 = true then (if x2 < (((rd_T38 y206 x10).f1).length : Int) then (some (bt207.1, (y206.set (x10 : Int).toNat (⟨(rd_T38 y206 x10).f0, (((rd_T38 y206 x10).f1).set (x2 : Int).toNat bt207.2.1)⟩ : S38)), true)) else (none)) else (some (x186000, x186001, false)))))) else (none)) else (none)) else (none)) else (none)
end
def spec_l11Write.f (k : Nat) (l0_0 : List (S55)) (l0_1 : List (S38)) (a1 : ByteArray) (a2 : Int) (a3 : ByteArray) : Option ((List (S55)) × (List (S38)) × Bool) := (spec_l11At.f k l0_0 l0_1 a1).bind fun t187 => (if t187 < 0 then (spec_l11Write.j0 k a2 a3 t187 true l0_0 l0_1) else (if 0 ≤ t187 then (if t187 < (l0_1.length : Int) then ((spec_l6In.f a2 0 (wrap64 ((((rd_T38 l0_1 t187).f1).length : Int) - 1))).bind fun t189 => (if t189 = true then ((spec_TextOk.f k a3).bind fun t190 => (spec_l11Write.j0 k a2 a3 t187 (!t190) l0_0 l0_1)) else (spec_l11Write.j0 k a2 a3 t187 true l0_0 l0_1))) else (none)) else (none)))
theorem spec_l11Write.mono_l : ∀ k, (∀ y0 y1 y2 y3 y4 y5, LeO (spec_l11Write.j0 k y0 y1 y2 y3 y4 y5) (spec_l11Write.j0 (k + 1) y0 y1 y2 y3 y4 y5)) ∧ (∀ y0 y1 y2 y3 y4 y5 y6, LeO (spec_l11Write.j1 k y0 y1 y2 y3 y4 y5 y6) (spec_l11Write.j1 (k + 1) y0 y1 y2 y3 y4 y5 y6))
 | 0 => ⟨fun _ _ _ _ _ _ r h => by simp [spec_l11Write.j0] at h, fun _ _ _ _ _ _ _ r h => by simp [spec_l11Write.j1] at h⟩
 | k + 1 => by
  obtain ⟨ih0, ih1⟩ := spec_l11Write.mono_l k
  refine ⟨?_, ?_⟩
  · intro y0 y1 y2 y3 y4 y5
    unfold spec_l11Write.j0
    repeat' first
    | (with_reducible exact ih0 _ _ _ _ _ _)
    | (with_reducible exact ih1 _ _ _ _ _ _ _)
    | (with_reducible exact spec_TextOk.mono _ _)
    | (with_reducible exact spec_l11At.mono _ _ _ _)
    | (with_reducible exact spec_l11Copy.mono _ _ _)
    | (with_reducible exact spec_l2Put.mono _ _ _)
    | (with_reducible exact LeO.refl _)
    | (with_reducible exact LeO.none _)
    | (with_reducible refine LeO.ite ?_ ?_)
    | (with_reducible refine LeO.bind ?_ (fun _ => ?_))
    | exact ih0 _ _ _ _ _ _
    | exact ih1 _ _ _ _ _ _ _
    | exact spec_TextOk.mono _ _
    | exact spec_l11At.mono _ _ _ _
    | exact spec_l11Copy.mono _ _ _
    | exact spec_l2Put.mono _ _ _
    | exact LeO.none _
    | refine LeO.ite ?_ ?_
    | refine LeO.bind ?_ (fun _ => ?_)
  intro y0 y1 y2 y3 y4 y5 y6
  unfold spec_l11Write.j1
  repeat' first
  | (with_reducible exact ih0 _ _ _ _ _ _)
  | (with_reducible exact ih1 _ _ _ _ _ _ _)
  | (with_reducible exact spec_TextOk.mono _ _)
  | (with_reducible exact spec_l11At.mono _ _ _ _)
  | (with_reducible exact spec_l11Copy.mono _ _ _)
  | (with_reducible exact spec_l2Put.mono _ _ _)
  | (with_reducible exact LeO.refl _)
  | (with_reducible exact LeO.none _)
  | (with_reducible refine LeO.ite ?_ ?_)
  | (with_reducible refine LeO.bind ?_ (fun _ => ?_))
  | exact ih0 _ _ _ _ _ _
  | exact ih1 _ _ _ _ _ _ _
  | exact spec_TextOk.mono _ _
  | exact spec_l11At.mono _ _ _ _
  | exact spec_l11Copy.mono _ _ _
  | exact spec_l2Put.mono _ _ _
  | exact LeO.none _
  | refine LeO.ite ?_ ?_
  | refine LeO.bind ?_ (fun _ => ?_)
theorem spec_l11Write.mono : ∀ a0 a1 a2 a3 a4 k, LeO (spec_l11Write.f k a0 a1 a2 a3 a4) (spec_l11Write.f (k + 1) a0 a1 a2 a3 a4) := by
 intro a0 a1 a2 a3 a4 k
 obtain ⟨ih0, ih1⟩ := spec_l11Write.mono_l k
 unfold spec_l11Write.f
 repeat' first
  | (with_reducible exact ih0 _ _ _ _ _ _)
  | (with_reducible exact ih1 _ _ _ _ _ _ _)
  | (with_reducible exact spec_TextOk.mono _ _)
  | (with_reducible exact spec_l11At.mono _ _ _ _)
  | (with_reducible exact spec_l11Copy.mono _ _ _)
  | (with_reducible exact spec_l2Put.mono _ _ _)
  | (with_reducible exact LeO.refl _)
  | (with_reducible exact LeO.none _)
  | (with_reducible refine LeO.ite ?_ ?_)
  | (with_reducible refine LeO.bind ?_ (fun _ => ?_))
  | exact ih0 _ _ _ _ _ _
  | exact ih1 _ _ _ _ _ _ _
  | exact spec_TextOk.mono _ _
  | exact spec_l11At.mono _ _ _ _
  | exact spec_l11Copy.mono _ _ _
  | exact spec_l2Put.mono _ _ _
  | exact LeO.none _
  | refine LeO.ite ?_ ?_
  | refine LeO.bind ?_ (fun _ => ?_)
set_option maxHeartbeats 8000000 in
set_option maxRecDepth 100000 in
theorem spec_l11Write.calls (k : Nat) (A0_0 : Option Addr) (c0_0 : Nat) (l0_0 : List (S55)) (A0_1 : Option Addr) (c0_1 : Nat) (l0_1 : List (S38)) (a1 : ByteArray) (a2 : Int) (a3 : ByteArray) (r1 : List (S55)) (r2 : List (S38)) (r3 : Bool) (w : World) (hr0_0 : Kd.C k55 w A0_0 l0_0.length l0_0) (hc0_0 : l0_0.length ≤ c0_0) (hr0_1 : Kd.C k38 w A0_1 l0_1.length l0_1) (hc0_1 : l0_1.length ≤ c0_1) (b_ : Nat) (hb_ : b_ ≤ w.heap.size) (hq0_0 : Kd.R k55 55 w b_ (fun _ => True) (.slice A0_0 l0_0.length c0_0) l0_0) (hq0_1 : Kd.S k38 38 w b_ (fun _ => True) (.slice A0_1 l0_1.length c0_1) l0_1) (h : spec_l11Write.f k l0_0 l0_1 a1 a2 a3 = some (r1, r2, r3)) :
 Calls Try.prog 89 #[.agg #[.slice A0_0 l0_0.length c0_0, .slice A0_1 l0_1.length c0_1], .string a1, .int .i64 a2, .string a3] w fun e w' => ∃ v0_ v1_ : Value, e = .returned (.tuple #[.agg #[v0_, v1_], .bool r3]) ∧ Kd.R k55 55 w' b_ (fun _ => True) v0_ r1 ∧ Kd.S k38 38 w' b_ (fun _ => True) v1_ r2 ∧ Below w.heap.size w w' := by
 have hu31 := Try.underlying31
 have HR0_0 := am hr0_0
 have HC0_0 := am hc0_0
 clear hr0_0 hc0_0
 have HR0_1 := am hr0_1
 have HC0_1 := am hc0_1
 clear hr0_1 hc0_1
 have HB := am (Below.refl w.heap.size w)
 have H : ((spec_l11At.f k l0_0 l0_1 a1).bind fun t187 => (if t187 < 0 then (spec_l11Write.j0 k a2 a3 t187 true l0_0 l0_1) else (if 0 ≤ t187 then (if t187 < (l0_1.length : Int) then ((spec_l6In.f a2 0 (wrap64 ((((rd_T38 l0_1 t187).f1).length : Int) - 1))).bind fun t189 => (if t189 = true then ((spec_TextOk.f k a3).bind fun t190 => (spec_l11Write.j0 k a2 a3 t187 (!t190) l0_0 l0_1)) else (spec_l11Write.j0 k a2 a3 t187 true l0_0 l0_1))) else (none)) else (none)))) = some (r1, r2, r3) := h
 clear h
 replace H := obs H
 obtain ⟨t187, A50, H⟩ := H
 replace H : (if t187 < 0 then (spec_l11Write.j0 k a2 a3 t187 true l0_0 l0_1) else (if 0 ≤ t187 then (if t187 < (l0_1.length : Int) then ((spec_l6In.f a2 0 (wrap64 ((((rd_T38 l0_1 t187).f1).length : Int) - 1))).bind fun t189 => (if t189 = true then ((spec_TextOk.f k a3).bind fun t190 => (spec_l11Write.j0 k a2 a3 t187 (!t190) l0_0 l0_1)) else (spec_l11Write.j0 k a2 a3 t187 true l0_0 l0_1))) else (none)) else (none))) = some (r1, r2, r3) := H
 have A5 := am A50
 clear A50
 have HC6 := am H
 clear H
 go_enter Try.func89, Try.ntmps89
 go_upto_region 2 with (first | ((with_reducible refine gate_dst (N := 4) rfl ?_); (try (refine gate_guard (by rfl) ?_; dsimp only)); refine bx 31 #[.slice A0_0 l0_0.length c0_0, .slice A0_1 l0_1.length c0_1] ?_; intro gb185 hg w7 hbox hb; have BK185 := am (hbox); have GW185 := am (zn hg (zb HB)); have GE185 := am (zn hg (zb HB)); replace HB := am (below_step (zb HB) hb); clear hb hbox hg) | ((with_reducible refine gate_dst (N := 8) rfl ?_); (try (refine gate_guard (by rfl) ?_; dsimp only)); refine bx 31 #[.slice none 0 0, .slice none 0 0] ?_; intro gb186 hg w8 hbox hb; have BK186 := am (hbox); have GW186 := am (zn hg (zb HB)); have GE186 := am (zn hg (zb HB)); replace HB := am (below_step (zb HB) hb); have NB185_186 := am (zx hg (zk BK185)); have NB186_185 := am (zy hg (zk BK185)); replace BK185 := am (blk_below (zk BK185) hb); clear hb hbox hg; have hnb9 := NB185_186.out; have hnc9 := NB186_185.out; have hcz10_0 := ce0 BK185; have hcz10_1 := ce1 BK185; have hfz10_0 := bfz BK185 0; have hfz10_1 := bfz BK185 1) | ((with_reducible refine gate_callee (f := 57) rfl ?_); refine gl Try.func57 18 #[.agg #[.slice A0_0 l0_0.length c0_0, .slice A0_1 l0_1.length c0_1], .string a1] rfl rfl rfl ?_; (with_reducible refine (spec_l11At.calls k _ _ l0_0 _ _ l0_1 a1 t187 _ ?side1 ?side2 ?side3 ?side4 A5.out).mono ?_); (case side1 => exact zc (Kd.C_below HR0_0.out HB.out)); (case side2 => exact HC0_0.out); (case side3 => exact zc (Kd.C_below HR0_1.out HB.out)); (case side4 => exact HC0_1.out); rintro e w11 ⟨rfl, hb⟩; refine ⟨_, rfl, ?_⟩; replace BK185 := am (blk_below (zk BK185) hb); replace BK186 := am (blk_below (zk BK186) hb); replace HB := am (below_step (zb HB) hb); (try clear hb); (try clear hb2); (try clear hk); (try clear hi)))
 (try simp only [Act.put, List.setIfInBounds_toArray, List.set_cons_zero, List.set_cons_succ])
 go_cut [38] (fun v38 wc => ∃ (kq : Nat) (x38_5 : Bool), v38 = .bool x38_5 ∧ Aside0 (spec_l11Write.j0 kq a2 a3 t187 x38_5 l0_0 l0_1 = some (r1, r2, r3)) ∧ Aside0 (kq ≤ k) ∧ Aside0 (wc.heap[gb185]? = some (.cells #[(.slice A0_0 l0_0.length c0_0), (.slice A0_1 l0_1.length c0_1)] 31 (0, 0))) ∧ Aside0 (wc.heap[gb186]? = some (.cells #[(.slice none 0 0), (.slice none 0 0)] 31 (0, 0))) ∧ Aside0 (Below w.heap.size w wc))
 case first =>
  have H := HC6.out
  clear HC6
  by_cases c12 : t187 < 0
  · rw [if_pos c12] at H
    have c12b0 : decide (t187 < 0) = true := decide_eq_true c12
    clear c12
    (first | rw [c12b0] | (simp only [i64_w, i32_w]; rw [c12b0]) | skip)
    have H' := am H
    clear H
    go_wp2
    go_meet
    case rel => exact ⟨_, (true), ze, H', ⟨by first | omega | exact Nat.le_refl _⟩, ⟨zk BK185⟩, ⟨zk BK186⟩, ⟨zb HB⟩⟩
  rw [if_neg c12] at H
  have c12b0 : decide (t187 < 0) = false := decide_eq_false c12
  clear c12
  (first | rw [c12b0] | (simp only [i64_w, i32_w]; rw [c12b0]) | skip)
  by_cases c13 : 0 ≤ t187
  rotate_left
  · rw [if_neg c13] at H
    exact absurd H (by simp)
  rw [if_pos c13] at H
  have c13b0 : decide (0 ≤ t187) = true := decide_eq_true c13
  clear c13
  by_cases c14 : t187 < (l0_1.length : Int)
  rotate_left
  · rw [if_neg c14] at H
    exact absurd H (by simp)
  rw [if_pos c14] at H
  have c14b0 : decide (t187 < (l0_1.length : Int)) = true := decide_eq_true c14
  clear c14
  replace H := obs H
  obtain ⟨t189, A150, H⟩ := H
  replace H : (if t189 = true then ((spec_TextOk.f k a3).bind fun t190 => (spec_l11Write.j0 k a2 a3 t187 (!t190) l0_0 l0_1)) else (spec_l11Write.j0 k a2 a3 t187 true l0_0 l0_1)) = some (r1, r2, r3) := H
  have A15 := am A150
  clear A150
  by_cases c16 : t189 = true
  rotate_left
  · replace c16 := Bool.eq_false_iff.mpr c16
    subst c16
    have H1 : (spec_l11Write.j0 k a2 a3 t187 true l0_0 l0_1) = some (r1, r2, r3) := by rw [if_neg (show ¬ (false = true) by decide)] at H; exact H
    clear H
    have H := H1
    clear H1
    have H' := am H
    clear H
    have hnb20 := NB185_186.out
    have hnc20 := NB186_185.out
    have hcz21_0 := ce0 BK185
    have hcz21_1 := ce1 BK185
    have hfz21_0 := bfz BK185 0
    have hfz21_1 := bfz BK185 1
    have p188 : 0 ≤ (t187 : Int) := of_decide_eq_true zl
    have q188 : t187 < (l0_1.length : Int) := of_decide_eq_true zl
    obtain ⟨ad188, A188_1, c188_1, e188, hx188_0, hx188_1, hl188_1, hi188_1⟩ := at_T38 HR0_1.out t187 p188 q188
    cases e188
    replace hx188_0 := hcx HB hx188_0
    replace hx188_1 := hcx HB hx188_1
    have HR188_1 := am hi188_1
    have HC188_1 := am hl188_1
    clear hi188_1 hl188_1
    replace p188 := eq_true p188
    replace q188 := eq_true q188
    go_wp2_with (first | (go_at_call 55; (with_reducible refine (spec_l6In.calls a2 0 (wrap64 ((((rd_T38 l0_1 t187).f1).length : Int) - 1)) false _ A15.out).mono ?_); rintro e w' ⟨rfl, ⟨nd, rfl⟩⟩))
    go_meet
    case rel => exact ⟨_, (true), ze, H', ⟨by first | omega | exact Nat.le_refl _⟩, ⟨zk BK185⟩, ⟨zk BK186⟩, ⟨zb HB⟩⟩
  subst c16
  have H1 : ((spec_TextOk.f k a3).bind fun t190 => (spec_l11Write.j0 k a2 a3 t187 (!t190) l0_0 l0_1)) = some (r1, r2, r3) := by rw [if_pos rfl] at H; exact H
  clear H
  have H := H1
  clear H1
  replace H := obs H
  obtain ⟨t190, A170, H⟩ := H
  replace H : (spec_l11Write.j0 k a2 a3 t187 (!t190) l0_0 l0_1) = some (r1, r2, r3) := H
  have A17 := am A170
  clear A170
  have H' := am H
  clear H
  have hnb18 := NB185_186.out
  have hnc18 := NB186_185.out
  have hcz19_0 := ce0 BK185
  have hcz19_1 := ce1 BK185
  have hfz19_0 := bfz BK185 0
  have hfz19_1 := bfz BK185 1
  have p188 : 0 ≤ (t187 : Int) := of_decide_eq_true zl
  have q188 : t187 < (l0_1.length : Int) := of_decide_eq_true zl
  obtain ⟨ad188, A188_1, c188_1, e188, hx188_0, hx188_1, hl188_1, hi188_1⟩ := at_T38 HR0_1.out t187 p188 q188
  cases e188
  replace hx188_0 := hcx HB hx188_0
  replace hx188_1 := hcx HB hx188_1
  have HR188_1 := am hi188_1
  have HC188_1 := am hl188_1
  clear hi188_1 hl188_1
  replace p188 := eq_true p188
  replace q188 := eq_true q188
  go_wp2_with (first | (go_at_call 55; (with_reducible refine (spec_l6In.calls a2 0 (wrap64 ((((rd_T38 l0_1 t187).f1).length : Int) - 1)) true _ A15.out).mono ?_); rintro e w' ⟨rfl, ⟨nd, rfl⟩⟩) | (go_at_call 65; (with_reducible refine (spec_TextOk.calls k a3 t190 _ A17.out).mono ?_); rintro e w' ⟨rfl, ⟨nd, rfl⟩⟩))
  go_meet
  case rel => exact ⟨_, (!t190), ze, H', ⟨by first | omega | exact Nat.le_refl _⟩, ⟨zk BK185⟩, ⟨zk BK186⟩, ⟨zb HB⟩⟩
 clear HC6
 try clear c1
 try clear p1
 try clear q1
 try clear hx1
 try clear c2
 try clear p2
 try clear c5
 try clear p6
 try clear c8
 try clear c9
 try clear c12
 try clear c12b0
 try clear c13
 try clear c13b0
 try clear c14
 try clear c14b0
 try clear c16
 try clear c18
 try clear p18
 try clear q18
 try clear hx18
 try clear c20
 try clear hcz10_0
 try clear hcz10_1
 try clear hcz19_0
 try clear hcz19_1
 try clear hcz21_0
 try clear hcz21_1
 try clear hfz10_0
 try clear hfz10_1
 try clear hfz19_0
 try clear hfz19_1
 try clear hfz21_0
 try clear hfz21_1
 try clear hx188_0
 try clear hx188_1
 try clear p188
 try clear q188
 obtain ⟨kq, x38_5, rfl, HA, HJ5, BK185, BK186, HB⟩ := hcut
 cases kq with
 | zero => exact absurd HA.out (by simp [spec_l11Write.j0])
 | succ kj5 =>
  have H := HA.out
  clear HA
  simp only [spec_l11Write.j0] at H
  by_cases c22 : x38_5 = true
  · subst c22
    have H1 : (some (l0_0, l0_1, false)) = some (r1, r2, r3) := by rw [if_pos rfl] at H; exact H
    clear H
    have H := H1
    clear H1
    simp only [Option.some.injEq, Prod.mk.injEq] at H
    obtain ⟨rfl, rfl, rfl⟩ := H
    have hnb23 := NB185_186.out
    have hnc23 := NB186_185.out
    have hcz24_0 := ce0 BK185
    have hcz24_1 := ce1 BK185
    have hfz24_0 := bfz BK185 0
    have hfz24_1 := bfz BK185 1
    have hcz25_0 := ce0 BK186
    have hcz25_1 := ce1 BK186
    have hfz25_0 := bfz BK186 0
    have hfz25_1 := bfz BK186 1
    go_wp2
    refine bodyPost_ret (results_ct rfl _ _ gb186 31 #[.slice A0_0 l0_0.length c0_0, .slice A0_1 l0_1.length c0_1] (0, 0) _ rfl (zp BK186) Try.underlying31 rfl (by kernel_rfl)) rfl ?_
    exact ⟨_, _, zw, (Kd.R_below hq0_0 (zb HB)), (Kd.S_below hq0_1 (zb HB)), (zb HB)⟩
  replace c22 := Bool.eq_false_iff.mpr c22
  subst c22
  have H1 : ((spec_l11Copy.f kj5 l0_0 l0_1).bind fun bt191 => (if 0 ≤ t187 then (if t187 < (bt191.2.length : Int) then (if 0 ≤ a2 then (if a2 < (((rd_T38 bt191.2 t187).f1).length : Int) then (if (rd ((rd_T38 bt191.2 t187).f1) a2) > 0 then ((spec_l2Drop.f bt191.1 (rd ((rd_T38 bt191.2 t187).f1) a2)).bind fun t200 => (spec_l11Write.j1 kj5 a2 a3 t187 l0_0 l0_1 t200 bt191.2)) else (spec_l11Write.j1 kj5 a2 a3 t187 l0_0 l0_1 bt191.1 bt191.2)) else (none)) else (none)) else (none)) else (none))) = some (r1, r2, r3) := by rw [if_neg (show ¬ (false = true) by decide)] at H; exact H
  clear H
  have H := H1
  clear H1
  replace H := obs H
  obtain ⟨⟨t191, t194⟩, A260, H⟩ := H
  replace H : (if 0 ≤ t187 then (if t187 < (t194.length : Int) then (if 0 ≤ a2 then (if a2 < (((rd_T38 t194 t187).f1).length : Int) then (if (rd ((rd_T38 t194 t187).f1) a2) > 0 then ((spec_l2Drop.f t191 (rd ((rd_T38 t194 t187).f1) a2)).bind fun t200 => (spec_l11Write.j1 kj5 a2 a3 t187 l0_0 l0_1 t200 t194)) else (spec_l11Write.j1 kj5 a2 a3 t187 l0_0 l0_1 t191 t194)) else (none)) else (none)) else (none)) else (none)) = some (r1, r2, r3) := H
  have A26 := am A260
  clear A260
  by_cases c27 : 0 ≤ t187
  rotate_left
  · rw [if_neg c27] at H
    exact absurd H (by simp)
  rw [if_pos c27] at H
  have c27b0 : decide (0 ≤ t187) = true := decide_eq_true c27
  clear c27
  by_cases c28 : t187 < (t194.length : Int)
  rotate_left
  · rw [if_neg c28] at H
    exact absurd H (by simp)
  rw [if_pos c28] at H
  have c28b0 : decide (t187 < (t194.length : Int)) = true := decide_eq_true c28
  clear c28
  by_cases c29 : 0 ≤ a2
  rotate_left
  · rw [if_neg c29] at H
    exact absurd H (by simp)
  rw [if_pos c29] at H
  have c29b0 : decide (0 ≤ a2) = true := decide_eq_true c29
  clear c29
  by_cases c30 : a2 < (((rd_T38 t194 t187).f1).length : Int)
  rotate_left
  · rw [if_neg c30] at H
    exact absurd H (by simp)
  rw [if_pos c30] at H
  have c30b0 : decide (a2 < (((rd_T38 t194 t187).f1).length : Int)) = true := decide_eq_true c30
  clear c30
  have HC31 := am H
  clear H
  have hnb32 := NB185_186.out
  have hnc32 := NB186_185.out
  have hcz33_0 := ce0 BK185
  have hcz33_1 := ce1 BK185
  have hfz33_0 := bfz BK185 0
  have hfz33_1 := bfz BK185 1
  go_upto_if 52 with (first | ((with_reducible refine gate_callee (f := 82) rfl ?_); refine gl Try.func82 41 #[.agg #[.slice A0_0 l0_0.length c0_0, .slice A0_1 l0_1.length c0_1]] rfl rfl rfl ?_; (with_reducible refine (spec_l11Copy.calls kj5 _ _ l0_0 _ _ l0_1 t191 t194 _ ?side1 ?side2 ?side3 ?side4 A26.out).mono ?_); (case side1 => exact zc (Kd.C_below HR0_0.out HB.out)); (case side2 => exact HC0_0.out); (case side3 => exact zc (Kd.C_below HR0_1.out HB.out)); (case side4 => exact HC0_1.out); rintro e w34 ⟨v192, v195, rfl, ho0, ho1, hb⟩; refine ⟨_, rfl, ?_⟩; have HO193 := am (Kd.R_lower ho0 (below_size (zb HB))); have HO196 := am (Kd.S_lower ho1 (below_size (zb HB))); replace BK185 := am (blk_below (zk BK185) hb); replace BK186 := am (blk_below (zk BK186) hb); replace HB := am (below_step (zb HB) hb); (try clear hb); (try clear hb2); (try clear hk); (try clear hi); (try clear ho0); (try clear ho1)) | ((with_reducible refine gate_dst (N := 11) rfl ?_); (try (refine gate_guard (by rfl) ?_; dsimp only)); refine bx 31 #[.slice none 0 0, .slice none 0 0] ?_; intro gb197 hg w35 hbox hb; replace HO193 := am (Kd.R_below (zr HO193) hb); replace HO196 := am (Kd.S_below (zs HO196) hb); have BK197 := am (hbox); have GW197 := am (zn hg (zb HB)); have GE197 := am (zn hg (zb HB)); replace HB := am (below_step (zb HB) hb); have NB185_197 := am (zx hg (zk BK185)); have NB197_185 := am (zy hg (zk BK185)); replace BK185 := am (blk_below (zk BK185) hb); have NB186_197 := am (zx hg (zk BK186)); have NB197_186 := am (zy hg (zk BK186)); replace BK186 := am (blk_below (zk BK186) hb); clear hb hbox hg; obtain ⟨Ao36, co36, eo36⟩ := Kd.R_slice HO193.out; subst eo36; have hnb37 := NB197_185.out; have hnc37 := NB185_197.out; have hnb38 := NB197_186.out; have hnc38 := NB186_197.out; have hcz39_0 := ce0 BK197; have hcz39_1 := ce1 BK197; have hfz39_0 := bfz BK197 0; have hfz39_1 := bfz BK197 1; obtain ⟨Ao40, co40, eo40⟩ := Kd.S_slice HO196.out; subst eo40) | ((with_reducible refine gate_store (t := 31) (p := 11) rfl ?_); refine store_event (t := 31) (p := 11) (v := ?vo_w41) (w1 := ((w35.setCell ⟨gb197, 0, none⟩ (.slice Ao36 t191.length co36)).setCell ⟨gb197, 1, none⟩ (.slice Ao40 t194.length co40))) ?hg ?ho ?hn ?hr ?_; (case ho => rfl); (case hg => rfl); (case hn => rfl); (case hr => first | (go_simp; done) | (go_simp; rfl)); intro w41 hw; replace HO193 : Aside0 (Kd.R k55 55 w41 w.heap.size (fun _ => True) (.slice Ao36 t191.length co36) t191) := ⟨(by rw [hw]; exact (by (with_reducible repeat (first | apply Kd.R_alloc | apply Kd.R_drewN | apply Kd.R_drew)); exact Kd.R_mono (Kd.R_far (p := ⟨gb197, 1, none⟩) (Kd.R_far (p := ⟨gb197, 0, none⟩) (Kd.R_types HO193.out BK197.out (by decide)) (fun _ hk => hk.2) (.slice Ao36 t191.length co36)) (fun _ hk => hk.2) (.slice Ao40 t194.length co40)) (fun _ hk => trivial)))⟩; replace HO196 : Aside0 (Kd.S k38 38 w41 w.heap.size (fun _ => True) (.slice Ao40 t194.length co40) t194) := ⟨(by rw [hw]; exact (by (with_reducible repeat (first | apply Kd.S_alloc | apply Kd.S_drewN | apply Kd.S_drew)); exact Kd.S_mono (Kd.S_far (p := ⟨gb197, 1, none⟩) (Kd.S_far (p := ⟨gb197, 0, none⟩) (Kd.S_types HO196.out BK197.out (by decide)) (fun _ hk => hk.2) (.slice Ao36 t191.length co36)) (fun _ hk => hk.2) (.slice Ao40 t194.length co40)) (fun _ hk => trivial)))⟩; replace BK185 : Aside0 (w41.heap[gb185]? = some (.cells #[.slice A0_0 l0_0.length c0_0, .slice A0_1 l0_1.length c0_1] 31 (0, 0))) := ⟨(by rw [hw]; exact (zk BK185))⟩; replace BK186 : Aside0 (w41.heap[gb186]? = some (.cells #[.slice none 0 0, .slice none 0 0] 31 (0, 0))) := ⟨(by rw [hw]; exact (zk BK186))⟩; replace BK197 : Aside0 (w41.heap[gb197]? = some (.cells #[.slice Ao36 t191.length co36, .slice Ao40 t194.length co40] 31 (0, 0))) := ⟨(by rw [hw]; exact (zp BK197))⟩; replace HB : Aside0 (Below w.heap.size w w41) := ⟨(by rw [hw]; exact (zb HB))⟩; clear hw; have hcz42_0 := ce0 BK197; have hcz42_1 := ce1 BK197; have hfz42_0 := bfz BK197 0; have hfz42_1 := bfz BK197 1; have p198 : 0 ≤ (t187 : Int) := of_decide_eq_true zl; have q198 : t187 < (t194.length : Int) := of_decide_eq_true zl; obtain ⟨ad198, A198_1, c198_1, e198, hx198_0, hx198_1, hl198_1, hi198_1⟩ := at_T38 (Kd.S_reads' HO196.out).2.2 t187 p198 q198; cases e198; obtain ⟨ce198, hce198, hMe198, hcc198⟩ := Kd.S_get HO196.out z38 t187 p198 (by first | exact q198 | exact of_decide_eq_true zl | (have e_ := (Kd.S_reads' HO196.out).1; omega)); obtain ⟨ve198_1, rfl, ge198_1⟩ := k38_openM hMe198; have hv198_1 := hcc198 1 _ rfl; rw [add_field _ _ 1 (by omega)] at hv198_1; replace hv198_1 := Option.some.inj (hv198_1.symm.trans hx198_1); rw [hv198_1] at ge198_1; have HL198_1 := am (show Kd.R (Kd.int .i64) 3 _ _ _ _ ((rd_T38 t194 t187).f1) from ge198_1); clear hv198_1 ge198_1; have HX198_1 := am hx198_1; clear hcc198 hce198; have HR198_1 := am hi198_1; have HC198_1 := am hl198_1; clear hi198_1 hl198_1; replace p198 := eq_true p198; replace q198 := eq_true q198; have p199 : 0 ≤ (a2 : Int) := of_decide_eq_true zl; have q199 : a2 < (((rd_T38 t194 t187).f1).length : Int) := of_decide_eq_true zl; obtain ⟨ad199, e199, hx199_0⟩ := Kd.at_int (zc HR198_1.out) a2 p199 q199; cases e199; replace p199 := eq_true p199; replace q199 := eq_true q199))
  (try simp only [Act.put, List.setIfInBounds_toArray, List.set_cons_zero, List.set_cons_succ])
  go_cut [] (fun wc => ∃ (kq : Nat) (x198000_30 : List (S55)) (u198000 : Value), Aside0 (spec_l11Write.j1 kq a2 a3 t187 l0_0 l0_1 x198000_30 t194 = some (r1, r2, r3)) ∧ Aside0 (kq ≤ kj5) ∧ Aside0 (Kd.R k55 55 wc w.heap.size (fun _ => True) u198000 x198000_30) ∧ Aside0 (Kd.S k38 38 wc w.heap.size (fun _ => True) (.slice (some ad198) t194.length co40) t194) ∧ Aside0 (wc.heap[gb185]? = some (.cells #[(.slice A0_0 l0_0.length c0_0), (.slice A0_1 l0_1.length c0_1)] 31 (0, 0))) ∧ Aside0 (wc.heap[gb186]? = some (.cells #[(.slice none 0 0), (.slice none 0 0)] 31 (0, 0))) ∧ Aside0 (wc.heap[gb197]? = some (.cells #[u198000, (.slice (some ad198) t194.length co40)] 31 (0, 0))) ∧ Aside0 (Below w.heap.size w wc))
  case first =>
   have H := HC31.out
   clear HC31
   by_cases c43 : (rd ((rd_T38 t194 t187).f1) a2) > 0
   rotate_left
   · rw [if_neg c43] at H
     have c43b0 : decide (0 < (rd ((rd_T38 t194 t187).f1) a2)) = false := decide_eq_false c43
     clear c43
     (first | rw [c43b0] | (simp only [i64_w, i32_w]; rw [c43b0]) | skip)
     have H' := am H
     clear H
     go_wp2
     go_meet
     case rel => exact ⟨_, (t191), (.slice Ao36 t191.length co36), H', ⟨by have := HJ5.out; first | omega | exact Nat.le_refl _⟩, ⟨zr HO193⟩, ⟨zs HO196⟩, ⟨zk BK185⟩, ⟨zk BK186⟩, ⟨zk BK197⟩, ⟨zb HB⟩⟩
   rw [if_pos c43] at H
   have c43b0 : decide (0 < (rd ((rd_T38 t194 t187).f1) a2)) = true := decide_eq_true c43
   clear c43
   (first | rw [c43b0] | (simp only [i64_w, i32_w]; rw [c43b0]) | skip)
   replace H := obs H
   obtain ⟨t200, A440, H⟩ := H
   replace H : (spec_l11Write.j1 kj5 a2 a3 t187 l0_0 l0_1 t200 t194) = some (r1, r2, r3) := H
   have A44 := am A440
   clear A440
   have H' := am H
   clear H
   have hnb45 := NB197_185.out
   have hnc45 := NB185_197.out
   have hnb46 := NB197_186.out
   have hnc46 := NB186_197.out
   have hcz47_0 := ce0 BK197
   have hcz47_1 := ce1 BK197
   have hfz47_0 := bfz BK197 0
   have hfz47_1 := bfz BK197 1
   go_wp2_with (first | ((with_reducible refine gate_callee (f := 96) rfl ?_); refine gl Try.func96 56 #[.slice Ao36 t191.length co36, .int .i64 (rd ((rd_T38 t194 t187).f1) a2)] rfl rfl rfl ?_; (with_reducible refine (spec_l2Drop.calls (fun k_ => some k_ = (.slice Ao36 t191.length co36 : Value).ownBlock) (.slice Ao36 t191.length co36) t191 (rd ((rd_T38 t194 t187).f1) a2) t200 w _ ?side1 ?side2 A44.out).mono ?_); (case side1 => exact zb HB); (case side2 => exact Kd.R_tight rfl HO193.out); rintro e w48 ⟨v201, rfl, ho0, hb, hkp⟩; refine ⟨_, rfl, ?_⟩; replace BK185 := am (blk_kept (zk BK185) hkp (fun hs_ => (fun e_ => (Kd.R_ne HO193.out BK185.out (by decide)) e_) hs_)); replace BK186 := am (blk_kept (zk BK186) hkp (fun hs_ => (fun e_ => (Kd.R_ne HO193.out BK186.out (by decide)) e_) hs_)); replace HO196 := am (Kd.S_mono (ok' := fun k_ => True) (Kd.S_keptB ((Kd.S_apart' HO196.out (Kd.R_typed HO193.out) (by decide))) hkp (fun k_ hk_ hs_ => (hk_.2) hs_)) (fun k_ hk_ => trivial)); replace BK197 := am (blk_kept (zk BK197) hkp (fun hs_ => (fun e_ => (Kd.R_ne HO193.out BK197.out (by decide)) e_) hs_)); have HO202 := am (Kd.R_mono (ok' := fun k_ => True) ho0 (fun k_ hk_ => trivial)); replace HB := am (hb); clear HO193 HL198_1; (try clear hb); (try clear hkp); (try clear ho0); obtain ⟨Ao49, co49, eo49⟩ := Kd.R_slice HO202.out; subst eo49; have hcz50_0 := ce0 BK197; have hcz50_1 := ce1 BK197; have hfz50_0 := bfz BK197 0; have hfz50_1 := bfz BK197 1))
   go_meet
   case rel => exact ⟨_, (t200), (.slice Ao49 t200.length co49), H', ⟨by have := HJ5.out; first | omega | exact Nat.le_refl _⟩, ⟨by (with_reducible repeat (first | apply Kd.R_alloc | apply Kd.R_drewN | apply Kd.R_drew)); exact Kd.R_mono (Kd.R_far (p := ⟨gb197, 0, none⟩) (Kd.R_types HO202.out BK197.out (by decide)) (fun _ hk => by first | exact hk.2 | trivial) (.slice Ao49 t200.length co49)) (fun _ hk => trivial)⟩, ⟨by (with_reducible repeat (first | apply Kd.S_alloc | apply Kd.S_drewN | apply Kd.S_drew)); exact Kd.S_mono (Kd.S_far (p := ⟨gb197, 0, none⟩) (Kd.S_types HO196.out BK197.out (by decide)) (fun _ hk => by first | exact hk.2 | trivial) (.slice Ao49 t200.length co49)) (fun _ hk => trivial)⟩, ⟨zk BK185⟩, ⟨zk BK186⟩, ⟨zp BK197⟩, ⟨zb HB⟩⟩
  clear HC31
  try clear c1
  try clear p1
  try clear q1
  try clear hx1
  try clear c2
  try clear p2
  try clear c3
  try clear c4
  try clear c5
  try clear p6
  try clear c8
  try clear c9
  try clear c12
  try clear c12b0
  try clear c13
  try clear c13b0
  try clear c14
  try clear c14b0
  try clear c16
  try clear c18
  try clear p18
  try clear q18
  try clear hx18
  try clear c19
  try clear p19
  try clear q19
  try clear hx19
  try clear c20
  try clear c22
  try clear c23
  try clear c27
  try clear c27b0
  try clear c28
  try clear c28b0
  try clear c29
  try clear c29b0
  try clear c30
  try clear c30b0
  try clear c32
  try clear c37
  try clear c38
  try clear c43
  try clear c43b0
  try clear c45
  try clear c46
  try clear hcz10_0
  try clear hcz10_1
  try clear hcz19_0
  try clear hcz19_1
  try clear hcz21_0
  try clear hcz21_1
  try clear hcz24_0
  try clear hcz24_1
  try clear hcz25_0
  try clear hcz25_1
  try clear hcz33_0
  try clear hcz33_1
  try clear hcz39_0
  try clear hcz39_1
  try clear hcz42_0
  try clear hcz42_1
  try clear hcz47_0
  try clear hcz47_1
  try clear hcz50_0
  try clear hcz50_1
  try clear hfz10_0
  try clear hfz10_1
  try clear hfz19_0
  try clear hfz19_1
  try clear hfz21_0
  try clear hfz21_1
  try clear hfz24_0
  try clear hfz24_1
  try clear hfz25_0
  try clear hfz25_1
  try clear hfz33_0
  try clear hfz33_1
  try clear hfz39_0
  try clear hfz39_1
  try clear hfz42_0
  try clear hfz42_1
  try clear hfz47_0
  try clear hfz47_1
  try clear hfz50_0
  try clear hfz50_1
  try clear hx188_0
  try clear hx188_1
  try clear hx198_0
  try clear hx198_1
  try clear hx199_0
  try clear p1
  try clear p18
  try clear p188
  try clear p198
  try clear p199
  try clear p2
  try clear p6
  try clear q1
  try clear q18
  try clear q188
  try clear q198
  try clear q199
  obtain ⟨kq, x198000_30, u198000, HA, HJ30, HO_198000, HO_198001, BK185, BK186, BK197, HB⟩ := hcut
  cases kq with
  | zero => exact absurd HA.out (by simp [spec_l11Write.j1])
  | succ kj30 =>
   have H := HA.out
   clear HA
   simp only [spec_l11Write.j1] at H
   by_cases c51 : 0 ≤ t187
   rotate_left
   · rw [if_neg c51] at H
     exact absurd H (by simp)
   rw [if_pos c51] at H
   have c51b0 : decide (0 ≤ t187) = true := decide_eq_true c51
   clear c51
   by_cases c52 : t187 < (t194.length : Int)
   rotate_left
   · rw [if_neg c52] at H
     exact absurd H (by simp)
   rw [if_pos c52] at H
   have c52b0 : decide (t187 < (t194.length : Int)) = true := decide_eq_true c52
   clear c52
   by_cases c53 : 0 ≤ a2
   rotate_left
   · rw [if_neg c53] at H
     exact absurd H (by simp)
   rw [if_pos c53] at H
   have c53b0 : decide (0 ≤ a2) = true := decide_eq_true c53
   clear c53
   by_cases c54 : a2 < (((rd_T38 t194 t187).f1).length : Int)
   rotate_left
   · rw [if_neg c54] at H
     exact absurd H (by simp)
   rw [if_pos c54] at H
   have c54b0 : decide (a2 < (((rd_T38 t194 t187).f1).length : Int)) = true := decide_eq_true c54
   clear c54
   obtain ⟨y204, hy204⟩ : ∃ y_ : List Int, y_ = (((rd_T38 t194 t187).f1).set (a2 : Int).toNat 0) := ⟨_, rfl⟩
   replace H : ((some (t194.set (t187 : Int).toNat (⟨(rd_T38 t194 t187).f0, y204⟩ : S38) : List (S38))).bind fun y206 => (if a3.toList = ([] : List UInt8) then (some (x198000_30, y206, true)) else ((spec_l2Put.f kj30 x198000_30 a3).bind fun bt207 => (if bt207.2.2 = true then (if a2 < (((rd_T38 y206 t187).f1).length : Int) then (some (bt207.1, (y206.set (t187 : Int).toNat (⟨(rd_T38 y206 t187).f0, (((rd_T38 y206 t187).f1).set (a2 : Int).toNat bt207.2.1)⟩ : S38)), true)) else (none)) else (some (l0_0, l0_1, false)))))) = some (r1, r2, r3) := hY hy204 H
   have Ny204 := am hy204
   clear hy204
   obtain ⟨y206, hy206⟩ : ∃ y_ : List (S38), y_ = (t194.set (t187 : Int).toNat (⟨(rd_T38 t194 t187).f0, y204⟩ : S38)) := ⟨_, rfl⟩
   replace H : (if a3.toList = ([] : List UInt8) then (some (x198000_30, y206, true)) else ((spec_l2Put.f kj30 x198000_30 a3).bind fun bt207 => (if bt207.2.2 = true then (if a2 < (((rd_T38 y206 t187).f1).length : Int) then (some (bt207.1, (y206.set (t187 : Int).toNat (⟨(rd_T38 y206 t187).f0, (((rd_T38 y206 t187).f1).set (a2 : Int).toNat bt207.2.1)⟩ : S38)), true)) else (none)) else (some (l0_0, l0_1, false))))) = some (r1, r2, r3) := hY hy206 H
   have Ny206 := am hy206
   clear hy206
   by_cases c56 : a3.toList = ([] : List UInt8)
   · rw [if_pos c56] at H
     have c56b0 : (a3.toList == ([] : List UInt8)) = true := beq_iff_eq.mpr c56
     have c56b1 : (a3.toList != ([] : List UInt8)) = false := bne_eq_false_iff_eq.mpr c56
     clear c56
     simp only [Option.some.injEq, Prod.mk.injEq] at H
     obtain ⟨rfl, rfl, rfl⟩ := H
     have hnb57 := NB197_185.out
     have hnc57 := NB185_197.out
     have hnb58 := NB197_186.out
     have hnc58 := NB186_197.out
     have hcz59_0 := ce0 BK197
     have hcz59_1 := ce1 BK197
     have hfz59_0 := bfz BK197 0
     have hfz59_1 := bfz BK197 1
     have p203 : 0 ≤ (t187 : Int) := of_decide_eq_true zl
     have q203 : t187 < (t194.length : Int) := of_decide_eq_true zl
     obtain ⟨ad203, A203_1, c203_1, e203, hx203_0, hx203_1, hl203_1, hi203_1⟩ := at_T38 (Kd.S_reads' HO_198001.out).2.2 t187 p203 q203
     obtain rfl : ad198 = ad203 := (by injection e203)
     obtain ⟨ce203, hce203, hMe203, hcc203⟩ := Kd.S_get HO_198001.out z38 t187 p203 (by first | exact q203 | exact of_decide_eq_true zl | (have e_ := (Kd.S_reads' HO_198001.out).1; omega))
     obtain ⟨ve203_1, rfl, ge203_1⟩ := k38_openM hMe203
     have hv203_1 := hcc203 1 _ rfl
     rw [add_field _ _ 1 (by omega)] at hv203_1
     replace hv203_1 := Option.some.inj (hv203_1.symm.trans hx203_1)
     rw [hv203_1] at ge203_1
     have HL203_1 := am (show Kd.R (Kd.int .i64) 3 _ _ _ _ ((rd_T38 t194 t187).f1) from ge203_1)
     clear hv203_1 ge203_1
     have HX203_1 := am hx203_1
     clear hcc203 hce203
     have HR203_1 := am hi203_1
     have HC203_1 := am hl203_1
     clear hi203_1 hl203_1
     replace p203 := eq_true p203
     replace q203 := eq_true q203
     have p55 : 0 ≤ (a2 : Int) := of_decide_eq_true zl
     have q55 : (a2 : Int) < ((((rd_T38 t194 t187).f1).length : Int) : Int) := of_decide_eq_true zl
     obtain ⟨go55, co55, eo55, gb55, gl55, cl55, HG55⟩ := Kd.R_form HL203_1.out (by omega)
     (first | cases eo55 | (injection eo55 with ea_ en_ ec_; (first | subst ea_ | (injection ea_ with ea_; subst ea_)); subst ec_; clear en_))
     have GB55 := am gb55
     have GG55 := am HG55
     clear gb55 gl55 HG55
     obtain ⟨hx55_0, hf55_0⟩ := Kd.R_celln 0 HL203_1.out (a2 : Int) p55 q55
     replace p55 := eq_true p55
     replace q55 := eq_true q55
     have hq60 : (t187 : Int) < (t194.length : Int) := (by have h_ : (t187 : Int) < ((t194.length : Int) : Int) := of_decide_eq_true zl; first | exact h_ | (have e_ := (Kd.S_reads' HO_198001.out).1; omega) | simpa only [List.length_set, List.length_set] using h_)
     obtain ⟨oki60, ce60, hcl60, hM60, hcc60, hok60, hbk60⟩ := Kd.S_borrow HO_198001.out z38 (t187 : Int) (of_decide_eq_true zl) (by first | exact hq60 | (have e_ := (Kd.S_reads' HO_198001.out).1; have h_ := hq60; omega))
     obtain ⟨ve60_1, rfl, ge60_1⟩ := k38_openM hM60
     have hv60 := hcc60 1 _ rfl
     rw [add_field _ _ 1 (by omega)] at hv60
     replace hv60 := Option.some.inj (hv60.symm.trans HX203_1.out)
     subst hv60
     clear hcc60 hcl60
     replace ge60_1 := (show Kd.R (Kd.int .i64) 3 _ _ _ _ ((rd_T38 t194 t187).f1) from ge60_1)
     have HP60 := Kd.R_putg ge60_1 (a2 : Int) 0
     go_wp2_with (first | ((with_reducible refine gate_store (t := 3) (p := 65) rfl ?_); refine store_event (t := 3) (p := 65) (v := ?vo_w61) (w1 := (wc.setCell ⟨go55, (a2 : Int).toNat, none⟩ (.int .i64 0))) ?hg ?ho ?hn ?hr ?_; (case ho => rfl); (case hg => rfl); (case hn => rfl); (case hr => first | (go_simp; done) | (go_simp; rfl)); intro w61 hw; have hg : wc.grownBy w61 (some go55) := (by rw [hw]; exact HP60.2); have hz_ : Kd.R (Kd.int .i64) 3 w61 w.heap.size oki60 (.slice (some ⟨go55, 0, none⟩) ((rd_T38 t194 t187).f1).length c203_1) y204 := (by rw [hw, Ny204.out]; exact HP60.1); have hp_ : Kd.S k38 38 w61 w.heap.size (fun _ => True) (.slice (some ad198) t194.length co40) y206 := (by rw [Ny206.out]; exact hbk60 hg (fun k_ e_ => by injection e_ with e_; subst e_; exact ge60_1.1 _ rfl) (k38_mkM _ _ _ (⟨(rd_T38 t194 t187).f0, y204⟩ : S38) hz_)); have hm_ := Kd.R_mono hz_ hok60; clear HP60 hbk60; replace HO_198000 := am (Kd.R_over' (v := (.slice (some ⟨go55, 0, none⟩) ((rd_T38 t194 t187).f1).length c203_1)) (zr HO_198000) (Kd.R_typed HL203_1.out) (by decide) hg); replace HO_198001 := am (hp_); replace BK185 := am (blk_grown (zk BK185) hg (Kd.R_ne HL203_1.out BK185.out (by decide))); replace BK186 := am (blk_grown (zk BK186) hg (Kd.R_ne HL203_1.out BK186.out (by decide))); replace BK197 := am (blk_grown (zk BK197) hg (Kd.R_ne HL203_1.out BK197.out (by decide))); replace HB := am ((by rw [hw]; exact below_set (HB.out) GB55.out : Below w.heap.size w w61)); have HL216 := am (hm_); have HC205 := am ((Kd.R_reads' hm_).2.1); clear HL203_1; clear hg hw hp_ hz_ hm_ hok60; have hcz62_0 := ce0 BK197; have hcz62_1 := ce1 BK197; have hfz62_0 := bfz BK197 0; have hfz62_1 := bfz BK197 1; obtain ⟨Ao63, co63, eo63⟩ := Kd.R_slice HO_198000.out; subst eo63; have hnb64 := NB186_185.out; have hnc64 := NB185_186.out; have hcz65_0 := ce0 BK186; have hcz65_1 := ce1 BK186; have hfz65_0 := bfz BK186 0; have hfz65_1 := bfz BK186 1))
     refine bodyPost_ret (results_ct rfl _ _ gb186 31 #[.slice Ao63 x198000_30.length co63, .slice (some ad198) t194.length co40] (0, 0) _ rfl (zp BK186) Try.underlying31 rfl (by kernel_rfl)) rfl ?_
     exact ⟨_, _, zw, (Kd.R_lower (base := w.heap.size) (by (with_reducible repeat (first | apply Kd.R_alloc | apply Kd.R_drewN | apply Kd.R_drew)); exact Kd.R_mono (Kd.R_far (p := ⟨gb186, 1, none⟩) (Kd.R_far (p := ⟨gb186, 0, none⟩) (Kd.R_types HO_198000.out BK186.out (by decide)) (fun _ hk => hk.2) (.slice Ao63 x198000_30.length co63)) (fun _ hk => hk.2) (.slice (some ad198) t194.length co40)) (fun _ hk => trivial)) hb_), (Kd.S_lower (base := w.heap.size) (by (with_reducible repeat (first | apply Kd.S_alloc | apply Kd.S_drewN | apply Kd.S_drew)); exact Kd.S_mono (Kd.S_far (p := ⟨gb186, 1, none⟩) (Kd.S_far (p := ⟨gb186, 0, none⟩) (Kd.S_types HO_198001.out BK186.out (by decide)) (fun _ hk => hk.2) (.slice Ao63 x198000_30.length co63)) (fun _ hk => hk.2) (.slice (some ad198) t194.length co40)) (fun _ hk => trivial)) hb_), (zb HB)⟩
   rw [if_neg c56] at H
   have c56b0 : (a3.toList == ([] : List UInt8)) = false := beq_eq_false_iff_ne.mpr c56
   have c56b1 : (a3.toList != ([] : List UInt8)) = true := bne_iff_ne.mpr c56
   replace H := obs H
   obtain ⟨⟨t207, t210, t211⟩, A660, H⟩ := H
   replace H : (if t211 = true then (if a2 < (((rd_T38 y206 t187).f1).length : Int) then (some (t207, (y206.set (t187 : Int).toNat (⟨(rd_T38 y206 t187).f0, (((rd_T38 y206 t187).f1).set (a2 : Int).toNat t210)⟩ : S38)), true)) else (none)) else (some (l0_0, l0_1, false))) = some (r1, r2, r3) := H
   have A66 := am A660
   clear A660
   by_cases c67 : t211 = true
   rotate_left
   · replace c67 := Bool.eq_false_iff.mpr c67
     subst c67
     have H1 : (some (l0_0, l0_1, false)) = some (r1, r2, r3) := by rw [if_neg (show ¬ (false = true) by decide)] at H; exact H
     clear H
     have H := H1
     clear H1
     simp only [Option.some.injEq, Prod.mk.injEq] at H
     obtain ⟨rfl, rfl, rfl⟩ := H
     have hnb87 := NB197_185.out
     have hnc87 := NB185_197.out
     have hnb88 := NB197_186.out
     have hnc88 := NB186_197.out
     have hcz89_0 := ce0 BK197
     have hcz89_1 := ce1 BK197
     have hfz89_0 := bfz BK197 0
     have hfz89_1 := bfz BK197 1
     have p203 : 0 ≤ (t187 : Int) := of_decide_eq_true zl
     have q203 : t187 < (t194.length : Int) := of_decide_eq_true zl
     obtain ⟨ad203, A203_1, c203_1, e203, hx203_0, hx203_1, hl203_1, hi203_1⟩ := at_T38 (Kd.S_reads' HO_198001.out).2.2 t187 p203 q203
     obtain rfl : ad198 = ad203 := (by injection e203)
     obtain ⟨ce203, hce203, hMe203, hcc203⟩ := Kd.S_get HO_198001.out z38 t187 p203 (by first | exact q203 | exact of_decide_eq_true zl | (have e_ := (Kd.S_reads' HO_198001.out).1; omega))
     obtain ⟨ve203_1, rfl, ge203_1⟩ := k38_openM hMe203
     have hv203_1 := hcc203 1 _ rfl
     rw [add_field _ _ 1 (by omega)] at hv203_1
     replace hv203_1 := Option.some.inj (hv203_1.symm.trans hx203_1)
     rw [hv203_1] at ge203_1
     have HL203_1 := am (show Kd.R (Kd.int .i64) 3 _ _ _ _ ((rd_T38 t194 t187).f1) from ge203_1)
     clear hv203_1 ge203_1
     have HX203_1 := am hx203_1
     clear hcc203 hce203
     have HR203_1 := am hi203_1
     have HC203_1 := am hl203_1
     clear hi203_1 hl203_1
     replace p203 := eq_true p203
     replace q203 := eq_true q203
     have p55 : 0 ≤ (a2 : Int) := of_decide_eq_true zl
     have q55 : (a2 : Int) < ((((rd_T38 t194 t187).f1).length : Int) : Int) := of_decide_eq_true zl
     obtain ⟨go55, co55, eo55, gb55, gl55, cl55, HG55⟩ := Kd.R_form HL203_1.out (by omega)
     (first | cases eo55 | (injection eo55 with ea_ en_ ec_; (first | subst ea_ | (injection ea_ with ea_; subst ea_)); subst ec_; clear en_))
     have GB55 := am gb55
     have GG55 := am HG55
     clear gb55 gl55 HG55
     obtain ⟨hx55_0, hf55_0⟩ := Kd.R_celln 0 HL203_1.out (a2 : Int) p55 q55
     replace p55 := eq_true p55
     replace q55 := eq_true q55
     have hq90 : (t187 : Int) < (t194.length : Int) := (by have h_ : (t187 : Int) < ((t194.length : Int) : Int) := of_decide_eq_true zl; first | exact h_ | (have e_ := (Kd.S_reads' HO_198001.out).1; omega) | simpa only [List.length_set, List.length_set] using h_)
     obtain ⟨oki90, ce90, hcl90, hM90, hcc90, hok90, hbk90⟩ := Kd.S_borrow HO_198001.out z38 (t187 : Int) (of_decide_eq_true zl) (by first | exact hq90 | (have e_ := (Kd.S_reads' HO_198001.out).1; have h_ := hq90; omega))
     obtain ⟨ve90_1, rfl, ge90_1⟩ := k38_openM hM90
     have hv90 := hcc90 1 _ rfl
     rw [add_field _ _ 1 (by omega)] at hv90
     replace hv90 := Option.some.inj (hv90.symm.trans HX203_1.out)
     subst hv90
     clear hcc90 hcl90
     replace ge90_1 := (show Kd.R (Kd.int .i64) 3 _ _ _ _ ((rd_T38 t194 t187).f1) from ge90_1)
     have HP90 := Kd.R_putg ge90_1 (a2 : Int) 0
     go_wp2_with (first | ((with_reducible refine gate_store (t := 3) (p := 65) rfl ?_); refine store_event (t := 3) (p := 65) (v := ?vo_w91) (w1 := (wc.setCell ⟨go55, (a2 : Int).toNat, none⟩ (.int .i64 0))) ?hg ?ho ?hn ?hr ?_; (case ho => rfl); (case hg => rfl); (case hn => rfl); (case hr => first | (go_simp; done) | (go_simp; rfl)); intro w91 hw; have hg : wc.grownBy w91 (some go55) := (by rw [hw]; exact HP90.2); have hz_ : Kd.R (Kd.int .i64) 3 w91 w.heap.size oki90 (.slice (some ⟨go55, 0, none⟩) ((rd_T38 t194 t187).f1).length c203_1) y204 := (by rw [hw, Ny204.out]; exact HP90.1); have hp_ : Kd.S k38 38 w91 w.heap.size (fun _ => True) (.slice (some ad198) t194.length co40) y206 := (by rw [Ny206.out]; exact hbk90 hg (fun k_ e_ => by injection e_ with e_; subst e_; exact ge90_1.1 _ rfl) (k38_mkM _ _ _ (⟨(rd_T38 t194 t187).f0, y204⟩ : S38) hz_)); have hm_ := Kd.R_mono hz_ hok90; clear HP90 hbk90; replace HO_198000 := am (Kd.R_over' (v := (.slice (some ⟨go55, 0, none⟩) ((rd_T38 t194 t187).f1).length c203_1)) (zr HO_198000) (Kd.R_typed HL203_1.out) (by decide) hg); replace HO_198001 := am (hp_); replace BK185 := am (blk_grown (zk BK185) hg (Kd.R_ne HL203_1.out BK185.out (by decide))); replace BK186 := am (blk_grown (zk BK186) hg (Kd.R_ne HL203_1.out BK186.out (by decide))); replace BK197 := am (blk_grown (zk BK197) hg (Kd.R_ne HL203_1.out BK197.out (by decide))); replace HB := am ((by rw [hw]; exact below_set (HB.out) GB55.out : Below w.heap.size w w91)); have HL219 := am (hm_); have HC205 := am ((Kd.R_reads' hm_).2.1); clear HL203_1; clear hg hw hp_ hz_ hm_ hok90; have hcz92_0 := ce0 BK197; have hcz92_1 := ce1 BK197; have hfz92_0 := bfz BK197 0; have hfz92_1 := bfz BK197 1; obtain ⟨Ao93, co93, eo93⟩ := Kd.R_slice HO_198000.out; subst eo93) | ((with_reducible refine gate_callee (f := 97) rfl ?_); refine gl Try.func97 73 #[.slice Ao93 x198000_30.length co93, .string a3] rfl rfl rfl ?_; (with_reducible refine (spec_l2Put.calls kj30 (fun k_ => some k_ = (.slice Ao93 x198000_30.length co93 : Value).ownBlock) (.slice Ao93 x198000_30.length co93) x198000_30 a3 t207 t210 false w _ ?side1 ?side2 A66.out).mono ?_); (case side1 => exact zb HB); (case side2 => exact Kd.R_tight rfl HO_198000.out); rintro e w94 ⟨v208, rfl, ho0, hb, hkp⟩; refine ⟨_, rfl, ?_⟩; replace HO_198001 := am (Kd.S_mono (ok' := fun k_ => True) (Kd.S_keptB ((Kd.S_apart' HO_198001.out (Kd.R_typed HO_198000.out) (by decide))) hkp (fun k_ hk_ hs_ => (hk_.2) hs_)) (fun k_ hk_ => trivial)); replace BK185 := am (blk_kept (zk BK185) hkp (fun hs_ => (fun e_ => (Kd.R_ne HO_198000.out BK185.out (by decide)) e_) hs_)); replace BK186 := am (blk_kept (zk BK186) hkp (fun hs_ => (fun e_ => (Kd.R_ne HO_198000.out BK186.out (by decide)) e_) hs_)); replace BK197 := am (blk_kept (zk BK197) hkp (fun hs_ => (fun e_ => (Kd.R_ne HO_198000.out BK197.out (by decide)) e_) hs_)); have HO209 := am (Kd.R_mono (ok' := fun k_ => True) ho0 (fun k_ hk_ => trivial)); replace HB := am (hb); clear HO_198000 HL219; (try clear hb); (try clear hkp); (try clear ho0); have hnb95 := NB185_186.out; have hnc95 := NB186_185.out; have hcz96_0 := ce0 BK185; have hcz96_1 := ce1 BK185; have hfz96_0 := bfz BK185 0; have hfz96_1 := bfz BK185 1; have hcz97_0 := ce0 BK186; have hcz97_1 := ce1 BK186; have hfz97_0 := bfz BK186 0; have hfz97_1 := bfz BK186 1))
     refine bodyPost_ret (results_ct rfl _ _ gb186 31 #[.slice A0_0 l0_0.length c0_0, .slice A0_1 l0_1.length c0_1] (0, 0) _ rfl (zp BK186) Try.underlying31 rfl (by kernel_rfl)) rfl ?_
     exact ⟨_, _, zw, (Kd.R_below hq0_0 (zb HB)), (Kd.S_below hq0_1 (zb HB)), (zb HB)⟩
   subst c67
   have H1 : (if a2 < (((rd_T38 y206 t187).f1).length : Int) then (some (t207, (y206.set (t187 : Int).toNat (⟨(rd_T38 y206 t187).f0, (((rd_T38 y206 t187).f1).set (a2 : Int).toNat t210)⟩ : S38)), true)) else (none)) = some (r1, r2, r3) := by rw [if_pos rfl] at H; exact H
   clear H
   have H := H1
   clear H1
   by_cases c68 : a2 < (((rd_T38 y206 t187).f1).length : Int)
   rotate_left
   · rw [if_neg c68] at H
     exact absurd H (by simp)
   rw [if_pos c68] at H
   have c68b0 : decide (a2 < (((rd_T38 y206 t187).f1).length : Int)) = true := decide_eq_true c68
   clear c68
   obtain ⟨y213, hy213⟩ : ∃ y_ : List Int, y_ = (((rd_T38 y206 t187).f1).set (a2 : Int).toNat t210) := ⟨_, rfl⟩
   replace H : (some (t207, (y206.set (t187 : Int).toNat (⟨(rd_T38 y206 t187).f0, y213⟩ : S38)), true)) = some (r1, r2, r3) := hY hy213 H
   have Ny213 := am hy213
   clear hy213
   obtain ⟨y215, hy215⟩ : ∃ y_ : List (S38), y_ = (y206.set (t187 : Int).toNat (⟨(rd_T38 y206 t187).f0, y213⟩ : S38)) := ⟨_, rfl⟩
   replace H : (some (t207, y215, true)) = some (r1, r2, r3) := hY hy215 H
   have Ny215 := am hy215
   clear hy215
   simp only [Option.some.injEq, Prod.mk.injEq] at H
   obtain ⟨rfl, rfl, rfl⟩ := H
   have hnb70 := NB197_185.out
   have hnc70 := NB185_197.out
   have hnb71 := NB197_186.out
   have hnc71 := NB186_197.out
   have hcz72_0 := ce0 BK197
   have hcz72_1 := ce1 BK197
   have hfz72_0 := bfz BK197 0
   have hfz72_1 := bfz BK197 1
   have p203 : 0 ≤ (t187 : Int) := of_decide_eq_true zl
   have q203 : t187 < (t194.length : Int) := of_decide_eq_true zl
   obtain ⟨ad203, A203_1, c203_1, e203, hx203_0, hx203_1, hl203_1, hi203_1⟩ := at_T38 (Kd.S_reads' HO_198001.out).2.2 t187 p203 q203
   obtain rfl : ad198 = ad203 := (by injection e203)
   obtain ⟨ce203, hce203, hMe203, hcc203⟩ := Kd.S_get HO_198001.out z38 t187 p203 (by first | exact q203 | exact of_decide_eq_true zl | (have e_ := (Kd.S_reads' HO_198001.out).1; omega))
   obtain ⟨ve203_1, rfl, ge203_1⟩ := k38_openM hMe203
   have hv203_1 := hcc203 1 _ rfl
   rw [add_field _ _ 1 (by omega)] at hv203_1
   replace hv203_1 := Option.some.inj (hv203_1.symm.trans hx203_1)
   rw [hv203_1] at ge203_1
   have HL203_1 := am (show Kd.R (Kd.int .i64) 3 _ _ _ _ ((rd_T38 t194 t187).f1) from ge203_1)
   clear hv203_1 ge203_1
   have HX203_1 := am hx203_1
   clear hcc203 hce203
   have HR203_1 := am hi203_1
   have HC203_1 := am hl203_1
   clear hi203_1 hl203_1
   replace p203 := eq_true p203
   replace q203 := eq_true q203
   have p55 : 0 ≤ (a2 : Int) := of_decide_eq_true zl
   have q55 : (a2 : Int) < ((((rd_T38 t194 t187).f1).length : Int) : Int) := of_decide_eq_true zl
   obtain ⟨go55, co55, eo55, gb55, gl55, cl55, HG55⟩ := Kd.R_form HL203_1.out (by omega)
   (first | cases eo55 | (injection eo55 with ea_ en_ ec_; (first | subst ea_ | (injection ea_ with ea_; subst ea_)); subst ec_; clear en_))
   have GB55 := am gb55
   have GG55 := am HG55
   clear gb55 gl55 HG55
   obtain ⟨hx55_0, hf55_0⟩ := Kd.R_celln 0 HL203_1.out (a2 : Int) p55 q55
   replace p55 := eq_true p55
   replace q55 := eq_true q55
   have hq73 : (t187 : Int) < (t194.length : Int) := (by have h_ : (t187 : Int) < ((t194.length : Int) : Int) := of_decide_eq_true zl; first | exact h_ | (have e_ := (Kd.S_reads' HO_198001.out).1; omega) | simpa only [List.length_set, List.length_set] using h_)
   obtain ⟨oki73, ce73, hcl73, hM73, hcc73, hok73, hbk73⟩ := Kd.S_borrow HO_198001.out z38 (t187 : Int) (of_decide_eq_true zl) (by first | exact hq73 | (have e_ := (Kd.S_reads' HO_198001.out).1; have h_ := hq73; omega))
   obtain ⟨ve73_1, rfl, ge73_1⟩ := k38_openM hM73
   have hv73 := hcc73 1 _ rfl
   rw [add_field _ _ 1 (by omega)] at hv73
   replace hv73 := Option.some.inj (hv73.symm.trans HX203_1.out)
   subst hv73
   clear hcc73 hcl73
   replace ge73_1 := (show Kd.R (Kd.int .i64) 3 _ _ _ _ ((rd_T38 t194 t187).f1) from ge73_1)
   have HP73 := Kd.R_putg ge73_1 (a2 : Int) 0
   go_wp2_with (first | ((with_reducible refine gate_store (t := 3) (p := 65) rfl ?_); refine store_event (t := 3) (p := 65) (v := ?vo_w74) (w1 := (wc.setCell ⟨go55, (a2 : Int).toNat, none⟩ (.int .i64 0))) ?hg ?ho ?hn ?hr ?_; (case ho => rfl); (case hg => rfl); (case hn => rfl); (case hr => first | (go_simp; done) | (go_simp; rfl)); intro w74 hw; have hg : wc.grownBy w74 (some go55) := (by rw [hw]; exact HP73.2); have hz_ : Kd.R (Kd.int .i64) 3 w74 w.heap.size oki73 (.slice (some ⟨go55, 0, none⟩) ((rd_T38 t194 t187).f1).length c203_1) y204 := (by rw [hw, Ny204.out]; exact HP73.1); have hp_ : Kd.S k38 38 w74 w.heap.size (fun _ => True) (.slice (some ad198) t194.length co40) y206 := (by rw [Ny206.out]; exact hbk73 hg (fun k_ e_ => by injection e_ with e_; subst e_; exact ge73_1.1 _ rfl) (k38_mkM _ _ _ (⟨(rd_T38 t194 t187).f0, y204⟩ : S38) hz_)); have hm_ := Kd.R_mono hz_ hok73; clear HP73 hbk73; replace HO_198000 := am (Kd.R_over' (v := (.slice (some ⟨go55, 0, none⟩) ((rd_T38 t194 t187).f1).length c203_1)) (zr HO_198000) (Kd.R_typed HL203_1.out) (by decide) hg); replace HO_198001 := am (hp_); replace BK185 := am (blk_grown (zk BK185) hg (Kd.R_ne HL203_1.out BK185.out (by decide))); replace BK186 := am (blk_grown (zk BK186) hg (Kd.R_ne HL203_1.out BK186.out (by decide))); replace BK197 := am (blk_grown (zk BK197) hg (Kd.R_ne HL203_1.out BK197.out (by decide))); replace HB := am ((by rw [hw]; exact below_set (HB.out) GB55.out : Below w.heap.size w w74)); have HL217 := am (hm_); have HC205 := am ((Kd.R_reads' hm_).2.1); clear HL203_1; clear hg hw hp_ hz_ hm_ hok73; have hcz75_0 := ce0 BK197; have hcz75_1 := ce1 BK197; have hfz75_0 := bfz BK197 0; have hfz75_1 := bfz BK197 1; obtain ⟨Ao76, co76, eo76⟩ := Kd.R_slice HO_198000.out; subst eo76) | ((with_reducible refine gate_callee (f := 97) rfl ?_); refine gl Try.func97 73 #[.slice Ao76 x198000_30.length co76, .string a3] rfl rfl rfl ?_; (with_reducible refine (spec_l2Put.calls kj30 (fun k_ => some k_ = (.slice Ao76 x198000_30.length co76 : Value).ownBlock) (.slice Ao76 x198000_30.length co76) x198000_30 a3 t207 t210 true w _ ?side1 ?side2 A66.out).mono ?_); (case side1 => exact zb HB); (case side2 => exact Kd.R_tight rfl HO_198000.out); rintro e w77 ⟨v208, rfl, ho0, hb, hkp⟩; refine ⟨_, rfl, ?_⟩; replace HO_198001 := am (Kd.S_mono (ok' := fun k_ => True) (Kd.S_keptB ((Kd.S_apart' HO_198001.out (Kd.R_typed HO_198000.out) (by decide))) hkp (fun k_ hk_ hs_ => (hk_.2) hs_)) (fun k_ hk_ => trivial)); replace BK185 := am (blk_kept (zk BK185) hkp (fun hs_ => (fun e_ => (Kd.R_ne HO_198000.out BK185.out (by decide)) e_) hs_)); replace BK186 := am (blk_kept (zk BK186) hkp (fun hs_ => (fun e_ => (Kd.R_ne HO_198000.out BK186.out (by decide)) e_) hs_)); replace BK197 := am (blk_kept (zk BK197) hkp (fun hs_ => (fun e_ => (Kd.R_ne HO_198000.out BK197.out (by decide)) e_) hs_)); have HO209 := am (Kd.R_mono (ok' := fun k_ => True) ho0 (fun k_ hk_ => trivial)); replace HB := am (hb); clear HO_198000 HL217; (try clear hb); (try clear hkp); (try clear ho0); obtain ⟨Ao78, co78, eo78⟩ := Kd.R_slice HO209.out; subst eo78; have hcz79_0 := ce0 BK197; have hcz79_1 := ce1 BK197; have hfz79_0 := bfz BK197 0; have hfz79_1 := bfz BK197 1) | ((with_reducible refine gate_store (t := 28) (p := 81) rfl ?_); refine store_event (t := 28) (p := 81) (v := ?vo_w80) (w1 := (w77.setCell ⟨gb197, 0, none⟩ (.slice Ao78 t207.length co78))) ?hg ?ho ?hn ?hr ?_; (case ho => rfl); (case hg => rfl); (case hn => rfl); (case hr => first | (go_simp; done) | (go_simp; rfl)); intro w80 hw; replace HO_198001 : Aside0 (Kd.S k38 38 w80 w.heap.size (fun _ => True) (.slice (some ad198) t194.length co40) y206) := ⟨(by rw [hw]; exact (by (with_reducible repeat (first | apply Kd.S_alloc | apply Kd.S_drewN | apply Kd.S_drew)); exact Kd.S_mono (Kd.S_far (p := ⟨gb197, 0, none⟩) (Kd.S_types HO_198001.out BK197.out (by decide)) (fun _ hk => hk.2) (.slice Ao78 t207.length co78)) (fun _ hk => trivial)))⟩; replace HO209 : Aside0 (Kd.R k55 55 w80 w.heap.size (fun _ => True) (.slice Ao78 t207.length co78) t207) := ⟨(by rw [hw]; exact (by (with_reducible repeat (first | apply Kd.R_alloc | apply Kd.R_drewN | apply Kd.R_drew)); exact Kd.R_mono (Kd.R_far (p := ⟨gb197, 0, none⟩) (Kd.R_types HO209.out BK197.out (by decide)) (fun _ hk => hk.2) (.slice Ao78 t207.length co78)) (fun _ hk => trivial)))⟩; replace BK185 : Aside0 (w80.heap[gb185]? = some (.cells #[.slice A0_0 l0_0.length c0_0, .slice A0_1 l0_1.length c0_1] 31 (0, 0))) := ⟨(by rw [hw]; exact (zk BK185))⟩; replace BK186 : Aside0 (w80.heap[gb186]? = some (.cells #[.slice none 0 0, .slice none 0 0] 31 (0, 0))) := ⟨(by rw [hw]; exact (zk BK186))⟩; replace BK197 : Aside0 (w80.heap[gb197]? = some (.cells #[.slice Ao78 t207.length co78, .slice (some ad198) t194.length co40] 31 (0, 0))) := ⟨(by rw [hw]; exact (zp BK197))⟩; replace HB : Aside0 (Below w.heap.size w w80) := ⟨(by rw [hw]; exact (zb HB))⟩; clear hw; have hcz81_0 := ce0 BK197; have hcz81_1 := ce1 BK197; have hfz81_0 := bfz BK197 0; have hfz81_1 := bfz BK197 1; have p212 : 0 ≤ (t187 : Int) := of_decide_eq_true zl; have q212 : t187 < (y206.length : Int) := (by have h_ : (t187 : Int) < ((t194.length : Int) : Int) := of_decide_eq_true zl; first | (have e_ := (Kd.S_reads' HO_198001.out).1; omega) | simpa only [Ny206.out, List.length_set] using h_); have ql212 : ((t187 : Int) < ((t194.length : Int) : Int)) = True := eq_true (of_decide_eq_true zl); obtain ⟨ad212, A212_1, c212_1, e212, hx212_0, hx212_1, hl212_1, hi212_1⟩ := at_T38 (Kd.S_reads' HO_198001.out).2.2 t187 p212 q212; obtain rfl : ad198 = ad212 := (by injection e212); obtain ⟨ce212, hce212, hMe212, hcc212⟩ := Kd.S_get HO_198001.out z38 t187 p212 (by first | exact q212 | exact of_decide_eq_true zl | (have e_ := (Kd.S_reads' HO_198001.out).1; omega)); obtain ⟨ve212_1, rfl, ge212_1⟩ := k38_openM hMe212; have hv212_1 := hcc212 1 _ rfl; rw [add_field _ _ 1 (by omega)] at hv212_1; replace hv212_1 := Option.some.inj (hv212_1.symm.trans hx212_1); rw [hv212_1] at ge212_1; have HL212_1 := am (show Kd.R (Kd.int .i64) 3 _ _ _ _ ((rd_T38 y206 t187).f1) from ge212_1); clear hv212_1 ge212_1; have HX212_1 := am hx212_1; clear hcc212 hce212; have HR212_1 := am hi212_1; have HC212_1 := am hl212_1; clear hi212_1 hl212_1; replace p212 := eq_true p212; replace q212 := eq_true q212; have p69 : 0 ≤ (a2 : Int) := of_decide_eq_true zl; have q69 : (a2 : Int) < ((((rd_T38 y206 t187).f1).length : Int) : Int) := of_decide_eq_true zl; obtain ⟨go69, co69, eo69, gb69, gl69, cl69, HG69⟩ := Kd.R_form HL212_1.out (by omega); (first | cases eo69 | (injection eo69 with ea_ en_ ec_; (first | subst ea_ | (injection ea_ with ea_; subst ea_)); subst ec_; clear en_)); have GB69 := am gb69; have GG69 := am HG69; clear gb69 gl69 HG69; obtain ⟨hx69_0, hf69_0⟩ := Kd.R_celln 0 HL212_1.out (a2 : Int) p69 q69; replace p69 := eq_true p69; replace q69 := eq_true q69; have hq82 : (t187 : Int) < (y206.length : Int) := (by have h_ : (t187 : Int) < ((t194.length : Int) : Int) := of_decide_eq_true zl; first | exact h_ | (have e_ := (Kd.S_reads' HO_198001.out).1; omega) | simpa only [Ny206.out, List.length_set] using h_); obtain ⟨oki82, ce82, hcl82, hM82, hcc82, hok82, hbk82⟩ := Kd.S_borrow HO_198001.out z38 (t187 : Int) (of_decide_eq_true zl) (by first | exact hq82 | (have e_ := (Kd.S_reads' HO_198001.out).1; have h_ := hq82; omega)); obtain ⟨ve82_1, rfl, ge82_1⟩ := k38_openM hM82; have hv82 := hcc82 1 _ rfl; rw [add_field _ _ 1 (by omega)] at hv82; replace hv82 := Option.some.inj (hv82.symm.trans HX212_1.out); subst hv82; clear hcc82 hcl82; replace ge82_1 := (show Kd.R (Kd.int .i64) 3 _ _ _ _ ((rd_T38 y206 t187).f1) from ge82_1); have HP82 := Kd.R_putg ge82_1 (a2 : Int) t210) | ((with_reducible refine gate_store (t := 3) (p := 90) rfl ?_); refine store_event (t := 3) (p := 90) (v := ?vo_w83) (w1 := (w80.setCell ⟨go69, (a2 : Int).toNat, none⟩ (.int .i64 t210))) ?hg ?ho ?hn ?hr ?_; (case ho => rfl); (case hg => rfl); (case hn => rfl); (case hr => first | (go_simp; done) | (go_simp; rfl)); intro w83 hw; have hg : w80.grownBy w83 (some go69) := (by rw [hw]; exact HP82.2); have hz_ : Kd.R (Kd.int .i64) 3 w83 w.heap.size oki82 (.slice (some ⟨go69, 0, none⟩) ((rd_T38 y206 t187).f1).length c212_1) y213 := (by rw [hw, Ny213.out]; exact HP82.1); have hp_ : Kd.S k38 38 w83 w.heap.size (fun _ => True) (.slice (some ad198) t194.length co40) y215 := (by rw [Ny215.out]; exact hbk82 hg (fun k_ e_ => by injection e_ with e_; subst e_; exact ge82_1.1 _ rfl) (k38_mkM _ _ _ (⟨(rd_T38 y206 t187).f0, y213⟩ : S38) hz_)); have hm_ := Kd.R_mono hz_ hok82; clear HP82 hbk82; replace HO_198001 := am (hp_); replace BK185 := am (blk_grown (zk BK185) hg (Kd.R_ne HL212_1.out BK185.out (by decide))); replace BK186 := am (blk_grown (zk BK186) hg (Kd.R_ne HL212_1.out BK186.out (by decide))); replace BK197 := am (blk_grown (zk BK197) hg (Kd.R_ne HL212_1.out BK197.out (by decide))); replace HO209 := am (Kd.R_over' (v := (.slice (some ⟨go69, 0, none⟩) ((rd_T38 y206 t187).f1).length c212_1)) (zr HO209) (Kd.R_typed HL212_1.out) (by decide) hg); replace HB := am ((by rw [hw]; exact below_set (HB.out) GB69.out : Below w.heap.size w w83)); have HL218 := am (hm_); have HC214 := am ((Kd.R_reads' hm_).2.1); clear HL212_1; clear hg hw hp_ hz_ hm_ hok82; have hcz84_0 := ce0 BK197; have hcz84_1 := ce1 BK197; have hfz84_0 := bfz BK197 0; have hfz84_1 := bfz BK197 1; have hnb85 := NB186_185.out; have hnc85 := NB185_186.out; have hcz86_0 := ce0 BK186; have hcz86_1 := ce1 BK186; have hfz86_0 := bfz BK186 0; have hfz86_1 := bfz BK186 1))
   refine bodyPost_ret (results_ct rfl _ _ gb186 31 #[.slice Ao78 t207.length co78, .slice (some ad198) t194.length co40] (0, 0) _ rfl (zp BK186) Try.underlying31 rfl (by kernel_rfl)) rfl ?_
   exact ⟨_, _, zw, (Kd.R_lower (base := w.heap.size) (by (with_reducible repeat (first | apply Kd.R_alloc | apply Kd.R_drewN | apply Kd.R_drew)); exact Kd.R_mono (Kd.R_far (p := ⟨gb186, 1, none⟩) (Kd.R_far (p := ⟨gb186, 0, none⟩) (Kd.R_types HO209.out BK186.out (by decide)) (fun _ hk => hk.2) (.slice Ao78 t207.length co78)) (fun _ hk => hk.2) (.slice (some ad198) t194.length co40)) (fun _ hk => trivial)) hb_), (Kd.S_lower (base := w.heap.size) (by (with_reducible repeat (first | apply Kd.S_alloc | apply Kd.S_drewN | apply Kd.S_drew)); exact Kd.S_mono (Kd.S_far (p := ⟨gb186, 1, none⟩) (Kd.S_far (p := ⟨gb186, 0, none⟩) (Kd.S_types HO_198001.out BK186.out (by decide)) (fun _ hk => hk.2) (.slice Ao78 t207.length co78)) (fun _ hk => hk.2) (.slice (some ad198) t194.length co40)) (fun _ hk => trivial)) hb_), (zb HB)⟩
end Go.Proofs.Ytooamacekmjpaaa.PFnVolCount
