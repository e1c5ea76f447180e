/- The walk: each function that the law comes to as a plain Lean function, and a proof that the Go code answers so. Written by this session's program over the kit's printer. -/
import Derived.Test.YtooamacekmjpaaaZ
import Derived.Test.YtooamacekmjpaaaQFnPoolUses0
import Derived.Test.YtooamacekmjpaaaQFnPoolUses4
import Derived.Test.YtooamacekmjpaaaQFnPoolUses6
import Derived.Test.YtooamacekmjpaaaQFnPoolUses7
import Derived.Test.YtooamacekmjpaaaQFnPoolUses17
namespace Go.Proofs.Ytooamacekmjpaaa.PFnPoolUses
open Go.RowKit Go.Proofs.YtooamacekmjpaaaW.PrintWords Go.Proofs.YtooamacekmjpaaaW.PrintLast Go.Proofs.YtooamacekmjpaaaW.PrintMore
attribute [local go_sem] max2_int min2_int max_two min_two max_three min_three max_four min_four   -- for this text's walks alone
set_option linter.unusedVariables false
set_option linter.unusedSimpArgs false
/-! ### laws_FnPoolUses: function 10 -/
mutual
def laws_FnPoolUses.j0 : Nat → List Int → List Int → Bool → Option (Bool)
 | 0, _, _, _ => none
 | k + 1, x0, x1, x19 => if x19 = true then (some true) else ((spec_DrawPoolOk.f k x0).bind fun bt511 => ((impl_PoolOk.f k bt511.1 bt511.2).bind fun t518 => ((spec_PoolOk.f k bt511.1 bt511.2).bind fun t519 => (if (t518 != t519) = true then (laws_FnPoolUses.j1 k x1 t518 true bt511.1 bt511.2) else (laws_FnPoolUses.j1 k x1 t518 (!t518) bt511.1 bt511.2)))))
def laws_FnPoolUses.j1 : Nat → List Int → Bool → Bool → List (S55) → List (S38) → Option (Bool)
 | 0, _, _, _, _, _ => none
 | k + 1, x1, x6, x31, x518000, x518001 => if x31 = true then ((spec_PoolOk.f k x518000 x518001).bind fun t520 => (some (x6 == t520))) else (laws_FnPoolUses.l0 k x1 1 x518000 x518001)
def laws_FnPoolUses.l0 : Nat → List Int → Int → List (S55) → List (S38) → Option (Bool)
 | 0, _, _, _, _ => none
 | k + 1, x1, x7, x518000, x518001 => if x7 ≤ 8 then (laws_FnPoolUses.l1 k x1 x7 0 0 x518000 x518001) else ((some (([] : List (S55)) : List (S55))).bind fun y522 => (if y522.length + x518000.length < 5864062014805 then ((some (y522 ++ x518000 : List (S55))).bind fun y525 => (if 0 ≤ ((x1.length : Int) % 8) then (if ((x1.length : Int) % 8) < (y525.length : Int) then ((impl_PoolOk.f k (y525.set (((x1.length : Int) % 8) : Int).toNat (⟨(rd_T55 y525 ((x1.length : Int) % 8)).f0, wrap64 (((rd_T55 y525 ((x1.length : Int) % 8)).f1) + 1)⟩ : S55)) x518001).bind fun t530 => (some (!t530))) else (none)) else (none))) else (none)))
def laws_FnPoolUses.l1 : Nat → List Int → Int → Int → Int → List (S55) → List (S38) → Option (Bool)
 | 0, _, _, _, _, _, _ => none
 | k + 1, x1, x7, x8, x9, x518000, x518001 => if x9 < (x518001.length : Int) then (if 0 ≤ x9 then ((impl_VolUses.f k ((rd_T38 x518001 x9).f0) ((rd_T38 x518001 x9).f1) x7).bind fun t532 => (laws_FnPoolUses.l1 k x1 x7 (wrap64 (x8 + t532)) (wrap64 (x9 + 1)) x518000 x518001)) else (none)) else (if 0 ≤ (wrap64 (x7 - 1)) then (if (wrap64 (x7 - 1)) < (x518000.length : Int) then (if x8 = ((rd_T55 x518000 (wrap64 (x7 - 1))).f1) then (laws_FnPoolUses.l0 k x1 (wrap64 (x7 + 1)) x518000 x518001) else (some false)) else (none)) else (none))
end
def laws_FnPoolUses.f (k : Nat) (l0 : List Int) (l1 : List Int) : Option (Bool) := if (l0.length : Int) > 1048576 then (laws_FnPoolUses.j0 k l0 l1 true) else (laws_FnPoolUses.j0 k l0 l1 (decide ((l1.length : Int) > 1048576)))
theorem laws_FnPoolUses.mono_l : ∀ k, (∀ y0 y1 y2, LeO (laws_FnPoolUses.j0 k y0 y1 y2) (laws_FnPoolUses.j0 (k + 1) y0 y1 y2)) ∧ (∀ y0 y1 y2 y3 y4, LeO (laws_FnPoolUses.j1 k y0 y1 y2 y3 y4) (laws_FnPoolUses.j1 (k + 1) y0 y1 y2 y3 y4)) ∧ (∀ y0 y1 y2 y3, LeO (laws_FnPoolUses.l0 k y0 y1 y2 y3) (laws_FnPoolUses.l0 (k + 1) y0 y1 y2 y3)) ∧ (∀ y0 y1 y2 y3 y4 y5, LeO (laws_FnPoolUses.l1 k y0 y1 y2 y3 y4 y5) (laws_FnPoolUses.l1 (k + 1) y0 y1 y2 y3 y4 y5))
 | 0 => ⟨fun _ _ _ r h => by simp [laws_FnPoolUses.j0] at h, fun _ _ _ _ _ r h => by simp [laws_FnPoolUses.j1] at h, fun _ _ _ _ r h => by simp [laws_FnPoolUses.l0] at h, fun _ _ _ _ _ _ r h => by simp [laws_FnPoolUses.l1] at h⟩
 | k + 1 => by
  obtain ⟨ih0, ih1, ih2, ih3⟩ := laws_FnPoolUses.mono_l k
  refine ⟨?_, ?_, ?_, ?_⟩
  · intro y0 y1 y2
    unfold laws_FnPoolUses.j0
    repeat' first
    | (with_reducible exact ih0 _ _ _)
    | (with_reducible exact ih1 _ _ _ _ _)
    | (with_reducible exact ih2 _ _ _ _)
    | (with_reducible exact ih3 _ _ _ _ _ _)
    | (with_reducible exact impl_PoolOk.mono _ _ _)
    | (with_reducible exact impl_VolUses.mono _ _ _ _)
    | (with_reducible exact spec_DrawPoolOk.mono _ _)
    | (with_reducible exact spec_PoolOk.mono _ _ _)
    | (with_reducible exact LeO.refl _)
    | (with_reducible exact LeO.none _)
    | (with_reducible refine LeO.ite ?_ ?_)
    | (with_reducible refine LeO.bind ?_ (fun _ => ?_))
    | exact ih0 _ _ _
    | exact ih1 _ _ _ _ _
    | exact ih2 _ _ _ _
    | exact ih3 _ _ _ _ _ _
    | exact impl_PoolOk.mono _ _ _
    | exact impl_VolUses.mono _ _ _ _
    | exact spec_DrawPoolOk.mono _ _
    | exact spec_PoolOk.mono _ _ _
    | exact LeO.none _
    | refine LeO.ite ?_ ?_
    | refine LeO.bind ?_ (fun _ => ?_)
  · intro y0 y1 y2 y3 y4
    unfold laws_FnPoolUses.j1
    repeat' first
    | (with_reducible exact ih0 _ _ _)
    | (with_reducible exact ih1 _ _ _ _ _)
    | (with_reducible exact ih2 _ _ _ _)
    | (with_reducible exact ih3 _ _ _ _ _ _)
    | (with_reducible exact impl_PoolOk.mono _ _ _)
    | (with_reducible exact impl_VolUses.mono _ _ _ _)
    | (with_reducible exact spec_DrawPoolOk.mono _ _)
    | (with_reducible exact spec_PoolOk.mono _ _ _)
    | (with_reducible exact LeO.refl _)
    | (with_reducible exact LeO.none _)
    | (with_reducible refine LeO.ite ?_ ?_)
    | (with_reducible refine LeO.bind ?_ (fun _ => ?_))
    | exact ih0 _ _ _
    | exact ih1 _ _ _ _ _
    | exact ih2 _ _ _ _
    | exact ih3 _ _ _ _ _ _
    | exact impl_PoolOk.mono _ _ _
    | exact impl_VolUses.mono _ _ _ _
    | exact spec_DrawPoolOk.mono _ _
    | exact spec_PoolOk.mono _ _ _
    | exact LeO.none _
    | refine LeO.ite ?_ ?_
    | refine LeO.bind ?_ (fun _ => ?_)
  · intro y0 y1 y2 y3
    unfold laws_FnPoolUses.l0
    repeat' first
    | (with_reducible exact ih0 _ _ _)
    | (with_reducible exact ih1 _ _ _ _ _)
    | (with_reducible exact ih2 _ _ _ _)
    | (with_reducible exact ih3 _ _ _ _ _ _)
    | (with_reducible exact impl_PoolOk.mono _ _ _)
    | (with_reducible exact impl_VolUses.mono _ _ _ _)
    | (with_reducible exact spec_DrawPoolOk.mono _ _)
    | (with_reducible exact spec_PoolOk.mono _ _ _)
    | (with_reducible exact LeO.refl _)
    | (with_reducible exact LeO.none _)
    | (with_reducible refine LeO.ite ?_ ?_)
    | (with_reducible refine LeO.bind ?_ (fun _ => ?_))
    | exact ih0 _ _ _
    | exact ih1 _ _ _ _ _
    | exact ih2 _ _ _ _
    | exact ih3 _ _ _ _ _ _
    | exact impl_PoolOk.mono _ _ _
    | exact impl_VolUses.mono _ _ _ _
    | exact spec_DrawPoolOk.mono _ _
    | exact spec_PoolOk.mono _ _ _
    | exact LeO.none _
    | refine LeO.ite ?_ ?_
    | refine LeO.bind ?_ (fun _ => ?_)
  intro y0 y1 y2 y3 y4 y5
  unfold laws_FnPoolUses.l1
  repeat' first
  | (with_reducible exact ih0 _ _ _)
  | (with_reducible exact ih1 _ _ _ _ _)
  | (with_reducible exact ih2 _ _ _ _)
  | (with_reducible exact ih3 _ _ _ _ _ _)
  | (with_reducible exact impl_PoolOk.mono _ _ _)
  | (with_reducible exact impl_VolUses.mono _ _ _ _)
  | (with_reducible exact spec_DrawPoolOk.mono _ _)
  | (with_reducible exact spec_PoolOk.mono _ _ _)
  | (with_reducible exact LeO.refl _)
  | (with_reducible exact LeO.none _)
  | (with_reducible refine LeO.ite ?_ ?_)
  | (with_reducible refine LeO.bind ?_ (fun _ => ?_))
  | exact ih0 _ _ _
  | exact ih1 _ _ _ _ _
  | exact ih2 _ _ _ _
  | exact ih3 _ _ _ _ _ _
  | exact impl_PoolOk.mono _ _ _
  | exact impl_VolUses.mono _ _ _ _
  | exact spec_DrawPoolOk.mono _ _
  | exact spec_PoolOk.mono _ _ _
  | exact LeO.none _
  | refine LeO.ite ?_ ?_
  | refine LeO.bind ?_ (fun _ => ?_)
theorem laws_FnPoolUses.mono : ∀ a0 a1 k, LeO (laws_FnPoolUses.f k a0 a1) (laws_FnPoolUses.f (k + 1) a0 a1) := by
 intro a0 a1 k
 obtain ⟨ih0, ih1, ih2, ih3⟩ := laws_FnPoolUses.mono_l k
 unfold laws_FnPoolUses.f
 repeat' first
  | (with_reducible exact ih0 _ _ _)
  | (with_reducible exact ih1 _ _ _ _ _)
  | (with_reducible exact ih2 _ _ _ _)
  | (with_reducible exact ih3 _ _ _ _ _ _)
  | (with_reducible exact impl_PoolOk.mono _ _ _)
  | (with_reducible exact impl_VolUses.mono _ _ _ _)
  | (with_reducible exact spec_DrawPoolOk.mono _ _)
  | (with_reducible exact spec_PoolOk.mono _ _ _)
  | (with_reducible exact LeO.refl _)
  | (with_reducible exact LeO.none _)
  | (with_reducible refine LeO.ite ?_ ?_)
  | (with_reducible refine LeO.bind ?_ (fun _ => ?_))
  | exact ih0 _ _ _
  | exact ih1 _ _ _ _ _
  | exact ih2 _ _ _ _
  | exact ih3 _ _ _ _ _ _
  | exact impl_PoolOk.mono _ _ _
  | exact impl_VolUses.mono _ _ _ _
  | exact spec_DrawPoolOk.mono _ _
  | exact spec_PoolOk.mono _ _ _
  | exact LeO.none _
  | refine LeO.ite ?_ ?_
  | refine LeO.bind ?_ (fun _ => ?_)
def laws_FnPoolUses.T20 : Bool × List (List Nat × List Nat) := (true, [([], []), ([0], [0]), ([], []), ([], []), ([3], [3]), ([], []), ([4, 5], [4, 5]), ([6], [6]), ([7], [7]), ([8], [8]), ([1, 2, 0, 1, 2, 3, 4, 5, 6, 7, 8, 9], [1, 2]), ([10, 0, 1, 2, 3, 4, 5, 6, 7, 8, 9], [10]), ([11, 9, 0, 1, 2, 3, 4, 5, 6, 7, 8, 9], [9, 11])])
def laws_FnPoolUses.B20 : List Nat := [0, 1, 0, 0, 8, 0, 56, 120, 248, 504, 1023, 2047, 4095]
theorem laws_FnPoolUses.tab20 : rtab .any (opsOf Try.f10 20) = laws_FnPoolUses.T20 := by kernel_rfl
theorem laws_FnPoolUses.bits20 : waitsOk laws_FnPoolUses.T20.2 laws_FnPoolUses.B20 = true := by kernel_rfl
set_option maxHeartbeats 8000000 in
set_option maxRecDepth 100000 in
theorem laws_FnPoolUses.calls (k : Nat) (A0 : Option Addr) (c0 : Nat) (l0 : List Int) (A1 : Option Addr) (c1 : Nat) (l1 : List Int) (r : Bool) (w : World) (hr0 : Kd.C (Kd.int .u8) w A0 l0.length l0) (hc0 : l0.length ≤ c0) (hr1 : Kd.C (Kd.int .u8) w A1 l1.length l1) (hc1 : l1.length ≤ c1) (h : laws_FnPoolUses.f k l0 l1 = some r) :
 Calls Try.prog 10 #[.slice A0 l0.length c0, .slice A1 l1.length c1] w fun e w' => e = .returned (.bool r) ∧ Below w.heap.size w w' := by
 have hu31 := Try.underlying31
 have hu38 := Try.underlying38
 have HR0 := am hr0
 have HC0 := am hc0
 clear hr0 hc0
 have HR1 := am hr1
 have HC1 := am hc1
 clear hr1 hc1
 have HB := am (Below.refl w.heap.size w)
 have H : (if (l0.length : Int) > 1048576 then (laws_FnPoolUses.j0 k l0 l1 true) else (laws_FnPoolUses.j0 k l0 l1 (decide ((l1.length : Int) > 1048576)))) = some r := h
 clear h
 have HC3 := am H
 clear H
 go_enter Try.func10, Try.ntmps10
 go_upto_region 1 with (fail)
 go_cut [19] (fun v19 wc => ∃ (kq : Nat) (x19_2 : Bool), v19 = .bool x19_2 ∧ Aside0 (laws_FnPoolUses.j0 kq l0 l1 x19_2 = some r) ∧ Aside0 (kq ≤ k) ∧ Aside0 (Below w.heap.size w wc))
 case first =>
  have H := HC3.out
  clear HC3
  by_cases c4 : (l0.length : Int) > 1048576
  · rw [if_pos c4] at H
    have c4b0 : decide (1048576 < (l0.length : Int)) = true := decide_eq_true c4
    have c4b1 : decide (1048576 < l0.length) = true := decide_eq_true (by omega)
    clear c4
    (first | rw [c4b0] | (simp only [i64_w, i32_w]; rw [c4b0]) | skip)
    have H' := am H
    clear H
    go_wp2
    go_meet
    case rel => exact ⟨_, (true), ze, H', ⟨by first | omega | exact Nat.le_refl _⟩, ⟨zb HB⟩⟩
  rw [if_neg c4] at H
  have c4b0 : decide (1048576 < (l0.length : Int)) = false := decide_eq_false c4
  have c4b1 : decide (1048576 < l0.length) = false := decide_eq_false (by omega)
  clear c4
  (first | rw [c4b0] | (simp only [i64_w, i32_w]; rw [c4b0]) | skip)
  have H' := am H
  clear H
  go_wp2
  go_meet
  case rel => exact ⟨_, (decide ((l1.length : Int) > 1048576)), ze, H', ⟨by first | omega | exact Nat.le_refl _⟩, ⟨zb HB⟩⟩
 clear HC3
 try clear c1
 try clear p2
 try clear c4
 try clear c4b0
 try clear c4b1
 obtain ⟨kq, x19_2, rfl, HA, HJ2, HB⟩ := hcut
 cases kq with
 | zero => exact absurd HA.out (by simp [laws_FnPoolUses.j0])
 | succ kj2 =>
  have H := HA.out
  clear HA
  simp only [laws_FnPoolUses.j0] at H
  by_cases c5 : x19_2 = true
  · subst c5
    have H1 : (some true) = some r := by rw [if_pos rfl] at H; exact H
    clear H
    have H := H1
    clear H1
    obtain rfl := Option.some.inj H
    go_wp2
    go_ret
    exact ⟨zv, (zb HB)⟩
  replace c5 := Bool.eq_false_iff.mpr c5
  subst c5
  have H1 : ((spec_DrawPoolOk.f kj2 l0).bind fun bt511 => ((impl_PoolOk.f kj2 bt511.1 bt511.2).bind fun t518 => ((spec_PoolOk.f kj2 bt511.1 bt511.2).bind fun t519 => (if (t518 != t519) = true then (laws_FnPoolUses.j1 kj2 l1 t518 true bt511.1 bt511.2) else (laws_FnPoolUses.j1 kj2 l1 t518 (!t518) bt511.1 bt511.2))))) = some r := by rw [if_neg (show ¬ (false = true) by decide)] at H; exact H
  clear H
  have H := H1
  clear H1
  replace H := obs H
  obtain ⟨⟨t511, t514⟩, A60, H⟩ := H
  replace H : ((impl_PoolOk.f kj2 t511 t514).bind fun t518 => ((spec_PoolOk.f kj2 t511 t514).bind fun t519 => (if (t518 != t519) = true then (laws_FnPoolUses.j1 kj2 l1 t518 true t511 t514) else (laws_FnPoolUses.j1 kj2 l1 t518 (!t518) t511 t514)))) = some r := H
  have A6 := am A60
  clear A60
  replace H := obs H
  obtain ⟨t518, A70, H⟩ := H
  replace H : ((spec_PoolOk.f kj2 t511 t514).bind fun t519 => (if (t518 != t519) = true then (laws_FnPoolUses.j1 kj2 l1 t518 true t511 t514) else (laws_FnPoolUses.j1 kj2 l1 t518 (!t518) t511 t514))) = some r := H
  have A7 := am A70
  clear A70
  have HC8 := am H
  clear H
  go_upto_region 5 with (first | ((with_reducible refine gate_callee (f := 32) rfl ?_); refine gl Try.func32 21 #[.slice A0 l0.length c0] rfl rfl rfl ?_; (with_reducible refine (spec_DrawPoolOk.calls kj2 _ _ l0 t511 t514 _ ?side1 ?side2 A6.out).mono ?_); (case side1 => exact zc (Kd.C_below HR0.out HB.out)); (case side2 => exact HC0.out); rintro e w9 ⟨v512, v515, rfl, ho0, ho1, hb⟩; refine ⟨_, rfl, ?_⟩; have HO513 := am (Kd.R_lower ho0 (below_size (zb HB))); have HO516 := am (Kd.S_lower ho1 (below_size (zb HB))); replace HB := am (below_step (zb HB) hb); (try clear hb); (try clear hb2); (try clear hk); (try clear hi); (try clear ho0); (try clear ho1)) | ((with_reducible refine gate_dst (N := 5) rfl ?_); (try (refine gate_guard (by rfl) ?_; dsimp only)); refine bx 31 #[.slice none 0 0, .slice none 0 0] ?_; intro gb517 hg w10 hbox hb; replace HO513 := am (Kd.R_below (zr HO513) hb); replace HO516 := am (Kd.S_below (zs HO516) hb); have BK517 := am (hbox); have GW517 := am (zn hg (zb HB)); have GE517 := am (zn hg (zb HB)); replace HB := am (below_step (zb HB) hb); clear hb hbox hg; obtain ⟨Ao11, co11, eo11⟩ := Kd.R_slice HO513.out; subst eo11; have hcz12_0 := ce0 BK517; have hcz12_1 := ce1 BK517; have hfz12_0 := bfz BK517 0; have hfz12_1 := bfz BK517 1; obtain ⟨Ao13, co13, eo13⟩ := Kd.S_slice HO516.out; subst eo13) | ((with_reducible refine gate_callee (f := 17) rfl ?_); refine gl Try.func17 23 #[.agg #[.slice Ao11 t511.length co11, .slice Ao13 t514.length co13]] rfl rfl rfl ?_; (with_reducible refine (impl_PoolOk.calls kj2 _ _ t511 _ _ t514 t518 _ ?side1 ?side2 ?side3 ?side4 A7.out).mono ?_); (case side1 => refine (Kd.R_reads' (e := 55) (base := w.heap.size) (ok := fun k_ => True) (n := t511.length) (c := co11) ?_).2.2; exact (rf HO513 BK517)); (case side2 => exact (Kd.R_reads' HO513.out).2.1); (case side3 => refine (Kd.S_reads' (e := 38) (base := w.heap.size) (ok := fun k_ => True) (n := t514.length) (c := co13) ?_).2.2; exact (sf HO516 BK517)); (case side4 => exact (Kd.S_reads' HO516.out).2.1); rintro e w14 ⟨rfl, hb⟩; refine ⟨_, rfl, ?_⟩; replace HO513 := am (Kd.R_below (rf HO513 BK517) hb); replace HO516 := am (Kd.S_below (sf HO516 BK517) hb); replace BK517 := am (blk_below (g := gb517) (o := .cells #[.slice Ao11 t511.length co11, .slice Ao13 t514.length co13] 31 (0, 0)) (zp BK517) hb); replace HB := am (below_step (zb HB) hb); (try clear hb); (try clear hb2); (try clear hk); (try clear hi)))
  (try simp only [Act.put, List.setIfInBounds_toArray, List.set_cons_zero, List.set_cons_succ])
  go_cut [31] (fun v31 wc => ∃ (kq : Nat) (x31_7 : Bool), v31 = .bool x31_7 ∧ Aside0 (laws_FnPoolUses.j1 kq l1 t518 x31_7 t511 t514 = some r) ∧ Aside0 (kq ≤ kj2) ∧ Aside0 (Kd.R k55 55 wc w.heap.size (fun _ => True) (.slice Ao11 t511.length co11) t511) ∧ Aside0 (Kd.S k38 38 wc w.heap.size (fun _ => True) (.slice Ao13 t514.length co13) t514) ∧ Aside0 (wc.heap[gb517]? = some (.cells #[(.slice Ao11 t511.length co11), (.slice Ao13 t514.length co13)] 31 (0, 0))) ∧ Aside0 (Below w.heap.size w wc))
  case first =>
   have H := HC8.out
   clear HC8
   replace H := obs H
   obtain ⟨t519, A150, H⟩ := H
   replace H : (if (t518 != t519) = true then (laws_FnPoolUses.j1 kj2 l1 t518 true t511 t514) else (laws_FnPoolUses.j1 kj2 l1 t518 (!t518) t511 t514)) = some r := H
   have A15 := am A150
   clear A150
   by_cases c16 : (t518 != t519) = true
   · rw [if_pos c16] at H
     have c16b0 : (t518 != t519) = true := c16
     (try (have c16b1 : decide (t518 = t519) = false := by simpa using c16))
     (try (have c16b2 : (t518 == t519) = false := by simpa using c16))
     (try (have c16b3 : ¬ (t518 = t519) := by simpa using c16))
     clear c16
     (first | rw [c16b0] | (simp only [i64_w, i32_w]; rw [c16b0]) | skip)
     have H' := am H
     clear H
     have hcz17_0 := ce0 BK517
     have hcz17_1 := ce1 BK517
     have hfz17_0 := bfz BK517 0
     have hfz17_1 := bfz BK517 1
     go_wp2_with (first | ((with_reducible refine gate_callee (f := 15) rfl ?_); refine gl Try.func15 26 #[.agg #[.slice Ao11 t511.length co11, .slice Ao13 t514.length co13]] rfl rfl rfl ?_; (with_reducible refine (spec_PoolOk.calls kj2 _ _ t511 _ _ t514 t519 _ ?side1 ?side2 ?side3 ?side4 A15.out).mono ?_); (case side1 => exact zc (Kd.R_reads' HO513.out).2.2); (case side2 => exact (Kd.R_reads' HO513.out).2.1); (case side3 => exact zc (Kd.S_reads' HO516.out).2.2); (case side4 => exact (Kd.S_reads' HO516.out).2.1); rintro e w18 ⟨rfl, hb⟩; refine ⟨_, rfl, ?_⟩; replace HO513 := am (Kd.R_below (zr HO513) hb); replace HO516 := am (Kd.S_below (zs HO516) hb); replace BK517 := am (blk_below (zk BK517) hb); replace HB := am (below_step (zb HB) hb); (try clear hb); (try clear hb2); (try clear hk); (try clear hi)))
     go_meet
     case rel => exact ⟨_, (true), ze, H', ⟨by have := HJ2.out; first | omega | exact Nat.le_refl _⟩, ⟨zr HO513⟩, ⟨zs HO516⟩, ⟨zk BK517⟩, ⟨zb HB⟩⟩
   rw [if_neg c16] at H
   have c16b0 : (t518 != t519) = false := by simpa using c16
   (try (have c16b1 : decide (t518 = t519) = true := by simpa using c16))
   (try (have c16b2 : (t518 == t519) = true := by simpa using c16))
   clear c16
   (first | rw [c16b0] | (simp only [i64_w, i32_w]; rw [c16b0]) | skip)
   have H' := am H
   clear H
   have hcz19_0 := ce0 BK517
   have hcz19_1 := ce1 BK517
   have hfz19_0 := bfz BK517 0
   have hfz19_1 := bfz BK517 1
   go_wp2_with (first | ((with_reducible refine gate_callee (f := 15) rfl ?_); refine gl Try.func15 26 #[.agg #[.slice Ao11 t511.length co11, .slice Ao13 t514.length co13]] rfl rfl rfl ?_; (with_reducible refine (spec_PoolOk.calls kj2 _ _ t511 _ _ t514 t519 _ ?side1 ?side2 ?side3 ?side4 A15.out).mono ?_); (case side1 => exact zc (Kd.R_reads' HO513.out).2.2); (case side2 => exact (Kd.R_reads' HO513.out).2.1); (case side3 => exact zc (Kd.S_reads' HO516.out).2.2); (case side4 => exact (Kd.S_reads' HO516.out).2.1); rintro e w20 ⟨rfl, hb⟩; refine ⟨_, rfl, ?_⟩; replace HO513 := am (Kd.R_below (zr HO513) hb); replace HO516 := am (Kd.S_below (zs HO516) hb); replace BK517 := am (blk_below (zk BK517) hb); replace HB := am (below_step (zb HB) hb); (try clear hb); (try clear hb2); (try clear hk); (try clear hi)))
   go_meet
   case rel => exact ⟨_, (!t518), ze, H', ⟨by have := HJ2.out; first | omega | exact Nat.le_refl _⟩, ⟨zr HO513⟩, ⟨zs HO516⟩, ⟨zk BK517⟩, ⟨zb HB⟩⟩
  clear HC8
  try clear c1
  try clear p2
  try clear c3
  try clear c4
  try clear c4b0
  try clear c4b1
  try clear c5
  try clear c10
  try clear c15
  try clear c16
  try clear c16b0
  try clear c16b1
  try clear c16b2
  try clear c17
  try clear hcz12_0
  try clear hcz12_1
  try clear hcz17_0
  try clear hcz17_1
  try clear hcz19_0
  try clear hcz19_1
  try clear hfz12_0
  try clear hfz12_1
  try clear hfz17_0
  try clear hfz17_1
  try clear hfz19_0
  try clear hfz19_1
  try clear p2
  obtain ⟨kq, x31_7, rfl, HA, HJ7, HO_518000, HO_518001, BK517, HB⟩ := hcut
  cases kq with
  | zero => exact absurd HA.out (by simp [laws_FnPoolUses.j1])
  | succ kj7 =>
   have H := HA.out
   clear HA
   simp only [laws_FnPoolUses.j1] at H
   by_cases c21 : x31_7 = true
   · subst c21
     have H1 : ((spec_PoolOk.f kj7 t511 t514).bind fun t520 => (some (t518 == t520))) = some r := by rw [if_pos rfl] at H; exact H
     clear H
     have H := H1
     clear H1
     replace H := obs H
     obtain ⟨t520, A220, H⟩ := H
     replace H : (some (t518 == t520)) = some r := H
     have A22 := am A220
     clear A220
     obtain rfl := Option.some.inj H
     have hcz23_0 := ce0 BK517
     have hcz23_1 := ce1 BK517
     have hfz23_0 := bfz BK517 0
     have hfz23_1 := bfz BK517 1
     go_wp2_with (first | ((with_reducible refine gate_callee (f := 15) rfl ?_); refine gl Try.func15 34 #[.agg #[.slice Ao11 t511.length co11, .slice Ao13 t514.length co13]] rfl rfl rfl ?_; (with_reducible refine (spec_PoolOk.calls kj7 _ _ t511 _ _ t514 t520 _ ?side1 ?side2 ?side3 ?side4 A22.out).mono ?_); (case side1 => exact zc (Kd.R_reads' HO_518000.out).2.2); (case side2 => exact (Kd.R_reads' HO_518000.out).2.1); (case side3 => exact zc (Kd.S_reads' HO_518001.out).2.2); (case side4 => exact (Kd.S_reads' HO_518001.out).2.1); rintro e w24 ⟨rfl, hb⟩; refine ⟨_, rfl, ?_⟩; replace HO_518000 := am (Kd.R_below (zr HO_518000) hb); replace HO_518001 := am (Kd.S_below (zs HO_518001) hb); replace BK517 := am (blk_below (zk BK517) hb); replace HB := am (below_step (zb HB) hb); (try clear hb); (try clear hb2); (try clear hk); (try clear hi)))
     go_ret
     exact ⟨zv, (zb HB)⟩
   replace c21 := Bool.eq_false_iff.mpr c21
   subst c21
   have H1 : (laws_FnPoolUses.l0 kj7 l1 1 t511 t514) = some r := by rw [if_neg (show ¬ (false = true) by decide)] at H; exact H
   clear H
   have H := H1
   clear H1
   have H' := am H
   clear H
   go_wp2
   go_loopg [7] kj7 (fun kq v7 w' => ∃ (x7_3 : Int), v7 = .int .i64 x7_3 ∧ Aside0 (laws_FnPoolUses.l0 kq l1 x7_3 t511 t514 = some r) ∧ Aside0 (kq ≤ kj7) ∧ Aside0 (Kd.R k55 55 w' w.heap.size (fun _ => True) (.slice Ao11 t511.length co11) t511) ∧ Aside0 (Kd.S k38 38 w' w.heap.size (fun _ => True) (.slice Ao13 t514.length co13) t514) ∧ Aside0 (w'.heap[gb517]? = some (.cells #[(.slice Ao11 t511.length co11), (.slice Ao13 t514.length co13)] 31 (0, 0))) ∧ Aside0 (Below w.heap.size w w'))
   case atStart => exact ⟨(1), ze, H', ⟨Nat.le_refl _⟩, ⟨zr HO_518000⟩, ⟨zs HO_518001⟩, ⟨zk BK517⟩, ⟨zb HB⟩⟩
   case round =>
    clear H'
    try clear c1
    try clear c2
    try clear p2
    try clear c3
    try clear c4
    try clear c4b0
    try clear c4b1
    try clear c5
    try clear c10
    try clear c15
    try clear c16
    try clear c16b0
    try clear c16b1
    try clear c16b2
    try clear c17
    try clear c21
    try clear hcz12_0
    try clear hcz12_1
    try clear hcz17_0
    try clear hcz17_1
    try clear hcz19_0
    try clear hcz19_1
    try clear hcz23_0
    try clear hcz23_1
    try clear hfz12_0
    try clear hfz12_1
    try clear hfz17_0
    try clear hfz17_1
    try clear hfz19_0
    try clear hfz19_1
    try clear hfz23_0
    try clear hfz23_1
    try clear p2
    obtain ⟨x7_3, rfl, HA, HK3, HO_518000, HO_518001, BK517, HB⟩ := hrel
    cases gk with
    | zero => exact absurd HA.out (by simp [laws_FnPoolUses.l0])
    | succ k3 =>
     have H := HA.out
     clear HA
     simp only [laws_FnPoolUses.l0] at H
     by_cases c25 : x7_3 ≤ 8
     rotate_left
     · rw [if_neg c25] at H
       have c25b0 : decide (x7_3 ≤ 8) = false := decide_eq_false c25
       clear c25
       obtain ⟨y522, hy522⟩ : ∃ y_ : List (S55), y_ = (([] : List (S55))) := ⟨_, rfl⟩
       replace H : (if y522.length + t511.length < 5864062014805 then ((some (y522 ++ t511 : List (S55))).bind fun y525 => (if 0 ≤ ((l1.length : Int) % 8) then (if ((l1.length : Int) % 8) < (y525.length : Int) then ((impl_PoolOk.f k3 (y525.set (((l1.length : Int) % 8) : Int).toNat (⟨(rd_T55 y525 ((l1.length : Int) % 8)).f0, wrap64 (((rd_T55 y525 ((l1.length : Int) % 8)).f1) + 1)⟩ : S55)) t514).bind fun t530 => (some (!t530))) else (none)) else (none))) else (none)) = some r := hY hy522 H
       have Ny522 := am hy522
       clear hy522
       by_cases c37 : y522.length + t511.length < 5864062014805
       rotate_left
       · rw [if_neg c37] at H
         exact absurd H (by simp)
       rw [if_pos c37] at H
       have LMc37 := am c37
       clear c37
       obtain ⟨y525, hy525⟩ : ∃ y_ : List (S55), y_ = (y522 ++ t511) := ⟨_, rfl⟩
       replace H : (if 0 ≤ ((l1.length : Int) % 8) then (if ((l1.length : Int) % 8) < (y525.length : Int) then ((impl_PoolOk.f k3 (y525.set (((l1.length : Int) % 8) : Int).toNat (⟨(rd_T55 y525 ((l1.length : Int) % 8)).f0, wrap64 (((rd_T55 y525 ((l1.length : Int) % 8)).f1) + 1)⟩ : S55)) t514).bind fun t530 => (some (!t530))) else (none)) else (none)) = some r := hY hy525 H
       have Ny525 := am hy525
       clear hy525
       obtain ⟨ji38, hji38⟩ : ∃ j_ : Int, ((l1.length : Int) % 8) = j_ := ⟨_, rfl⟩
       replace H : (if 0 ≤ (ji38) then (if (ji38) < (y525.length : Int) then ((impl_PoolOk.f k3 (y525.set ((ji38) : Int).toNat (⟨(rd_T55 y525 (ji38)).f0, wrap64 (((rd_T55 y525 (ji38)).f1) + 1)⟩ : S55)) t514).bind fun t530 => (some (!t530))) else (none)) else (none)) = some r := by first | (rw [hji38] at H; exact H) | (simp only [hji38] at H ⊢; exact H)
       by_cases c39 : 0 ≤ (ji38)
       rotate_left
       · rw [if_neg c39] at H
         exact absurd H (by simp)
       rw [if_pos c39] at H
       have c39b0 : decide (0 ≤ (ji38)) = true := decide_eq_true c39
       clear c39
       by_cases c40 : (ji38) < (y525.length : Int)
       rotate_left
       · rw [if_neg c40] at H
         exact absurd H (by simp)
       rw [if_pos c40] at H
       have c40b0 : decide ((ji38) < (y525.length : Int)) = true := decide_eq_true c40
       clear c40
       obtain ⟨y529, hy529⟩ : ∃ y_ : List (S55), y_ = (y525.set ((ji38) : Int).toNat (⟨(rd_T55 y525 (ji38)).f0, wrap64 (((rd_T55 y525 (ji38)).f1) + 1)⟩ : S55)) := ⟨_, rfl⟩
       replace H : ((impl_PoolOk.f k3 y529 t514).bind fun t530 => (some (!t530))) = some r := hY hy529 H
       have Ny529 := am hy529
       clear hy529
       replace H := obs H
       obtain ⟨t530, A420, H⟩ := H
       replace H : (some (!t530)) = some r := H
       have A42 := am A420
       clear A420
       obtain rfl := Option.some.inj H
       have hcz43_0 := ce0 BK517
       have hcz43_1 := ce1 BK517
       have hfz43_0 := bfz BK517 0
       have hfz43_1 := bfz BK517 1
       try go_wp2_with (first | ((with_reducible refine gate_dst (N := 10) rfl ?_); (try (refine gate_guard (by rfl) ?_; dsimp only)); refine bx 31 #[.slice none 0 0, .slice none 0 0] ?_; intro gb521 hg w44 hbox hb; replace HO_518000 := am (Kd.R_below (zr HO_518000) hb); replace HO_518001 := am (Kd.S_below (zs HO_518001) hb); have BK521 := am (hbox); have GW521 := am (zn hg (zb HB)); have GE521 := am (zn hg (zb HB)); replace HB := am (below_step (zb HB) hb); have NB517_521 := am (zx hg (zk BK517)); have NB521_517 := am (zy hg (zk BK517)); replace BK517 := am (blk_below (zk BK517) hb); clear hb hbox hg; have hnb45 := NB521_517.out; have hnc45 := NB517_521.out; have hcz46_0 := ce0 BK521; have hcz46_1 := ce1 BK521; have hfz46_0 := bfz BK521 0; have hfz46_1 := bfz BK521 1) | ((with_reducible refine gate_dst (N := 66) rfl ?_); (try (refine gate_guard (by rfl) ?_; dsimp only)); refine Kd.R_lit k55 _ 55 ?hg (N := 66) ?hd (xs := ([] : List (S55))) (inner := []) (ok := fun _ => True) (okp := fun _ => True) ?hr ?hp (fun _ hk => hk) trivial (Below.refl _ _) (Nat.le_refl _) (by simp) ?_; (case hd => rfl); (case hg => rfl); (case hr => first | (go_simp; done) | (go_simp; rfl)); (case hp => exact (Reps.none _ _)); intro v523 w47 ho48 hb hg_ hnew_; clear hg_ hnew_; (first | rw [← Ny522.out] at ho48 | (simp only [Int.reduceToNat] at ho48; rw [← Ny522.out] at ho48)); replace HO_518001 := am (Kd.S_below (sf HO_518001 BK521) hb); have HO524 := am (Kd.R_lower (Kd.R_new' ho48 (Kd.R_lt (rf HO_518000 BK521))) (below_size (zb HB))); replace HO_518000 := am (Kd.R_elder' (rf HO_518000 BK521) (Kd.R_base ho48) hb); replace BK517 := am (blk_below (zk BK517) hb); replace BK521 := am (blk_below (g := gb521) (o := .cells #[.slice Ao11 t511.length co11, .slice Ao13 t514.length co13] 31 (0, 0)) (zp BK521) hb); replace HB := am (below_step (zb HB) hb); clear hb ho48; have hcz49_0 := ce0 BK517; have hcz49_1 := ce1 BK517; have hfz49_0 := bfz BK517 0; have hfz49_1 := bfz BK517 1) | ((with_reducible refine gate_builtin (b := .append) (xs := #[.tmp 66, .tmp 68]) rfl ?_); (try (refine gate_guard (by rfl) ?_; dsimp only)); at_builtin; refine Kd.R_append_rows k55 (w0 := w) w.heap.size rfl (.tmp 66) (.tmp 68) 28 55 (.agg #[(.string ⟨#[]⟩), (.int .i64 0)]) 24 rfl Try.underlying28 info55 rfl (by decide) (by omega) v523 y522 t511 _ _ _ (fun k_ => some k_ ≠ (.slice Ao11 t511.length co11 : Value).ownBlock) (fun _ => False) rfl rfl ?aO ?aR (fun _ _ h => h) (fun _ h => h.elim) ?aF ?aB ?aS ?aL ?_; (case aR => repeat (first | exact (Kd.R_reads' HO_518000.out).2.2 | (with_reducible refine Kd.C_alloc ?_ _) | (with_reducible refine Kd.C_drewN ?_ _) | (with_reducible refine Kd.C_drew ?_))); (case aB => exact (zb HB)); (case aF => exact (fun k_ hk => Kd.fresh' (Kd.R_lt (zr HO_518000)) k_ hk)); (case aO => exact (by (with_reducible repeat (first | apply Kd.R_alloc | apply Kd.R_drewN | apply Kd.R_drew)); exact Kd.R_mono HO524.out (fun _ hk => hk.2))); (case aS => exact (below_size (zb HB))); (case aL => have := LMc37.out; omega); intro v526 w50 ho hb hg hat; rw [← Ny525.out] at ho; replace HO_518000 := am (Kd.R_after (ok := (fun _ => True)) (zr HO_518000) hg hat); replace HO_518001 := am (Kd.S_over' (zs HO_518001) (Kd.R_typed (zr HO524)) (by decide) hg); replace BK517 := am (blk_grown (zk BK517) hg (Kd.R_ne HO524.out BK517.out (by decide))); replace BK521 := am (blk_grown (zk BK521) hg (Kd.R_ne HO524.out BK521.out (by decide))); replace HB := am (hb); have HO527 := am (ho); clear HO524; clear ho hb hg hat; obtain ⟨Ao51, co51, eo51⟩ := Kd.R_slice HO527.out; subst eo51; have hcz52_0 := ce0 BK521; have hcz52_1 := ce1 BK521; have hfz52_0 := bfz BK521 0; have hfz52_1 := bfz BK521 1))
       have n0_ : Aside0 (Kd.R k55 55 (w50.setCell ⟨gb521, 0, none⟩ (.slice Ao51 y525.length co51)) w.heap.size (fun k_ => some k_ ≠ (.slice Ao51 y525.length co51 : Value).ownBlock) (.slice Ao11 t511.length co11) t511) := ⟨by (with_reducible repeat (first | apply Kd.R_alloc | apply Kd.R_drewN | apply Kd.R_drew)); exact Kd.R_mono (Kd.R_far (p := ⟨gb521, 0, none⟩) (Kd.R_types HO_518000.out BK521.out (by decide)) (fun _ hk => hk.2) (.slice Ao51 y525.length co51)) (fun _ hk => hk.1.2)⟩
       have n1_ : Aside0 (Kd.S k38 38 (w50.setCell ⟨gb521, 0, none⟩ (.slice Ao51 y525.length co51)) w.heap.size (fun _ => True) (.slice Ao13 t514.length co13) t514) := ⟨by (with_reducible repeat (first | apply Kd.S_alloc | apply Kd.S_drewN | apply Kd.S_drew)); exact Kd.S_mono (Kd.S_far (p := ⟨gb521, 0, none⟩) (Kd.S_types HO_518001.out BK521.out (by decide)) (fun _ hk => hk.2) (.slice Ao51 y525.length co51)) (fun _ hk => trivial)⟩
       have n2_ : Aside0 (Kd.R k55 55 (w50.setCell ⟨gb521, 0, none⟩ (.slice Ao51 y525.length co51)) w.heap.size (fun k_ => some k_ ≠ (.slice Ao11 t511.length co11 : Value).ownBlock) (.slice Ao51 y525.length co51) y525) := ⟨(rf HO527 BK521)⟩
       have n3_ : Aside0 ((w50.setCell ⟨gb521, 0, none⟩ (.slice Ao51 y525.length co51)).heap[gb517]? = some (.cells #[.slice Ao11 t511.length co11, .slice Ao13 t514.length co13] 31 (0, 0))) := ⟨zk BK517⟩
       have n4_ : Aside0 ((w50.setCell ⟨gb521, 0, none⟩ (.slice Ao51 y525.length co51)).heap[gb521]? = some (.cells #[.slice Ao51 y525.length co51, .slice Ao13 t514.length co13] 31 (0, 0))) := ⟨zp BK521⟩
       have n5_ : Aside0 (Below w.heap.size w (w50.setCell ⟨gb521, 0, none⟩ (.slice Ao51 y525.length co51))) := ⟨zb HB⟩
       (try clear HO_518000)
       (try clear HO_518001)
       (try clear HO527)
       (try clear BK517)
       (try clear BK521)
       (try clear HB)
       generalize (w50.setCell ⟨gb521, 0, none⟩ (.slice Ao51 y525.length co51)) = w53 at n0_ n1_ n2_ n3_ n4_ n5_ ⊢
       have HO_518000 := n0_
       have HO_518001 := n1_
       have HO527 := n2_
       have BK517 := n3_
       have BK521 := n4_
       have HB := n5_
       clear n0_ n1_ n2_ n3_ n4_ n5_
       replace HO_518000 := am (Kd.R_drew HO_518000.out)
       replace HO_518001 := am (Kd.S_drew HO_518001.out)
       replace HO527 := am (Kd.R_drew HO527.out)
       replace BK517 := am (blk_drew BK517.out)
       replace BK521 := am (blk_drew BK521.out)
       replace HB := am (below_drew1 HB.out)
       have p528 : 0 ≤ ((ji38) : Int) := of_decide_eq_true zl
       have q528 : (ji38) < (y525.length : Int) := of_decide_eq_true zl
       obtain ⟨ad528, e528, hx528_0, hx528_1⟩ := at_T55 (Kd.R_reads' HO527.out).2.2 (ji38) p528 q528
       cases e528
       replace p528 := eq_true p528
       replace q528 := eq_true q528
       have p41 : 0 ≤ ((ji38) : Int) := of_decide_eq_true zl
       have q41 : ((ji38) : Int) < ((y525.length : Int) : Int) := of_decide_eq_true zl
       obtain ⟨go41, co41, eo41, gb41, gl41, cl41, HG41⟩ := Kd.R_form HO527.out (by omega)
       (first | cases eo41 | (injection eo41 with ea_ en_ ec_; (first | subst ea_ | (injection ea_ with ea_; subst ea_)); subst ec_; clear en_))
       have GB41 := am gb41
       have GG41 := am HG41
       clear gb41 gl41 HG41
       (first | simp only [add_plain] at hx528_0 | skip)
       (first | simp only [add_plain] at hx528_1 | skip)
       obtain ⟨ce41, hcl41, hM41, hcc41, hfr41⟩ := Kd.R_elem HO527.out z55 ((ji38) : Int) p41 q41
       obtain rfl := k55_openM hM41
       have hx41_0 : World.cell? _ ⟨go41, ((ji38) : Int).toNat * 2, none⟩ = some (.string ((rd_T55 y525 (ji38)).f0)) := hcc41 0 _ rfl
       have hx41_1 : World.cell? _ ⟨go41, ((ji38) : Int).toNat * 2 + 1, none⟩ = some (.int .i64 ((rd_T55 y525 (ji38)).f1)) := hcc41 1 _ rfl
       have hf41_0 : World.frozen? _ ⟨go41, ((ji38) : Int).toNat * 2, none⟩ = false := hfr41 0
       have hf41_1 : World.frozen? _ ⟨go41, ((ji38) : Int).toNat * 2 + 1, none⟩ = false := hfr41 1
       clear hcl41 hcc41 hfr41 hM41
       replace p41 := eq_true p41
       replace q41 := eq_true q41
       obtain ⟨ce55, hcl55, hM55, hcc55, hfr55⟩ := Kd.R_elem HO527.out z55 ((ji38) : Int) (of_decide_eq_true zl) (by have h_ : ((ji38) : Int) < ((y525.length : Int) : Int) := of_decide_eq_true zl; first | exact h_ | (have e_ := (Kd.R_reads' HO527.out).1; omega) | simpa using h_)
       obtain rfl := k55_openM hM55
       have HP55 := (Kd.R_seg HO527.out ((ji38) : Int) (of_decide_eq_true zl) (by have h_ : ((ji38) : Int) < ((y525.length : Int) : Int) := of_decide_eq_true zl; first | exact h_ | (have e_ := (Kd.R_reads' HO527.out).1; omega) | simpa using h_) (seg := [.int .i64 (wrap64 (((rd_T55 y525 (ji38)).f1) + 1))]) (j := 1) hcl55 hcc55 (show 2 ≤ 2 from by decide) (x' := (⟨(rd_T55 y525 (ji38)).f0, wrap64 (((rd_T55 y525 (ji38)).f1) + 1)⟩ : S55)) (k55_mkM _ _ _ (⟨(rd_T55 y525 (ji38)).f0, wrap64 (((rd_T55 y525 (ji38)).f1) + 1)⟩ : S55) ) (fun _ hk => hk)).1
       rw [← Ny529.out] at HP55
       have HQ55 := am HP55
       clear hcl55 hcc55 hfr55 hM55 HP55
       refine start_ (n := 13) (S := fun w' => w'.cell? ⟨gb521, 0, none⟩ = some (.slice (some ⟨go41, 0, none⟩) y525.length co51) ∧ w'.cell? ⟨gb521, 1, none⟩ = some (.slice Ao13 t514.length co13) ∧ w'.cell? ⟨go41, ((ji38)).toNat * 2, none⟩ = some (.string ((rd_T55 y525 (ji38)).f0)) ∧ w'.cell? ⟨go41, ((ji38)).toNat * 2 + 1, none⟩ = some (.int .i64 ((rd_T55 y525 (ji38)).f1))) (ds := [12]) (bs 13 0) (by kernel_rfl) rfl rfl ⟨ce0 BK521, ce1 BK521, hx41_0, hx41_1⟩ (fun hHeld => ?_); refine with_tabW laws_FnPoolUses.tab20 laws_FnPoolUses.bits20 (fun HT_ HW_ => ?_)
       generalize w53.drew = w54 at HO_518000 HO_518001 HO527 BK517 BK521 HB GG41 HQ55 hf41_0 hf41_1 hx41_0 hx41_1 hx528_0 hx528_1 hHeld ⊢
       refine pu 0 74 13 1 rfl rfl ?_
       refine pu 2 76 13 5 rfl rfl ?_
       refine pu 3 77 13 13 rfl rfl ?_
       refine pu 5 79 13 45 rfl rfl ?_
       refine ta4 1 75 13 47 rfl rfl hHeld ?_
       refine ta4 4 78 13 63 rfl rfl hHeld ?_
       refine pu 6 80 13 127 rfl rfl ?_
       refine pu 7 81 13 255 rfl rfl ?_
       refine ta4 8 82 13 511 rfl rfl hHeld ?_
       refine pu 9 83 13 1023 rfl rfl ?_
       refine pu 10 84 13 2047 rfl rfl ?_
       refine pu 11 85 13 4095 rfl rfl ?_
       refine la 12 13 8191 rfl rfl (fun K hK => ?_)
       refine skip_ (w1 := ?_) (by rfl) rfl ?_ ?_
       rotate_left
       · go_simp
         rfl
       refine hK.out _ _ ?_
       clear hK K
       refine done_ (done_of HT_.out (by kernel_rfl)) ?_
       have hne56_ : gb521 ≠ go41 := by intro e_; exact (Kd.R_ne HO527.out BK521.out (by decide)) (by rw [e_]; rfl)
       have hnf56_ := hne56_.symm
       have hcz56_0 := ce0 BK521
       have hcz56_1 := ce1 BK521
       have hfz56_0 := bfz BK521 0
       have hfz56_1 := bfz BK521 1
       try go_wp2_with (first | ((with_reducible refine gate_callee (f := 17) rfl ?_); refine goesL_ (some 87) rfl rfl Try.func17 (by kernel_rfl) rfl #[.agg #[.slice (some ⟨go41, 0, none⟩) y529.length co51, .slice Ao13 t514.length co13]] rfl (by (try simp only [List.map_toArray, List.map_cons, List.map_nil]); first | done | (rw [show y529.length = y525.length from (Kd.R_reads' HQ55.out).1.symm] <;> rfl) | rfl | (simp only [List.length_drop, List.length_take]; rfl)) ?_; (with_reducible refine (impl_PoolOk.calls k3 _ _ y529 _ _ t514 t530 _ ?side1 ?side2 ?side3 ?side4 A42.out).mono ?_); (case side1 => refine (Kd.R_reads' (e := 55) (base := w.heap.size) (ok := fun k_ => some k_ ≠ (.slice Ao11 t511.length co11 : Value).ownBlock) (n := y525.length) (c := co51) ?_).2.2; exact (zr HQ55)); (case side2 => rw [show y529.length = y525.length from (Kd.R_reads' HQ55.out).1.symm]; exact (Kd.R_reads' HO527.out).2.1); (case side3 => refine (Kd.S_reads' (e := 38) (base := w.heap.size) (ok := fun k_ => True) (n := t514.length) (c := co13) ?_).2.2; exact (by (with_reducible repeat (first | apply Kd.S_alloc | apply Kd.S_drewN | apply Kd.S_drew)); exact (Kd.S_mono (Kd.S_far (p := ⟨go41, ((ji38) : Int).toNat * 2 + 1, none⟩) (Kd.S_types HO_518001.out GG41.out (by decide)) (fun _ hk => hk.2) (.int .i64 (wrap64 (((rd_T55 y525 (ji38)).f1) + 1)))) (fun _ h_ => h_.1)))); (case side4 => exact (Kd.S_reads' HO_518001.out).2.1); rintro e w57 ⟨rfl, hb⟩; refine ⟨_, rfl, ?_⟩; replace HO_518000 := am (Kd.R_below (by (with_reducible repeat (first | apply Kd.R_alloc | apply Kd.R_drewN | apply Kd.R_drew)); exact (Kd.R_mono (Kd.R_far (p := ⟨go41, ((ji38) : Int).toNat * 2 + 1, none⟩) (Kd.R_mono HO_518000.out (fun k_ hk => (⟨hk, fun e_ => hk (by rw [e_]; rfl)⟩ : _ ∧ k_ ≠ go41))) (fun _ hk => hk.2) (.int .i64 (wrap64 (((rd_T55 y525 (ji38)).f1) + 1)))) (fun _ h_ => h_.1))) hb); replace HO_518001 := am (Kd.S_below (by (with_reducible repeat (first | apply Kd.S_alloc | apply Kd.S_drewN | apply Kd.S_drew)); exact (Kd.S_mono (Kd.S_far (p := ⟨go41, ((ji38) : Int).toNat * 2 + 1, none⟩) (Kd.S_types HO_518001.out GG41.out (by decide)) (fun _ hk => hk.2) (.int .i64 (wrap64 (((rd_T55 y525 (ji38)).f1) + 1)))) (fun _ h_ => h_.1))) hb); replace BK517 := am (blk_below (g := gb517) (o := .cells #[.slice Ao11 t511.length co11, .slice Ao13 t514.length co13] 31 (0, 0)) (by (with_reducible repeat (first | refine blk_drewN ?_ _ | refine blk_drew ?_ | refine blk_alloc ?_ _)); refine blk_far ?_ (by have h_ := Kd.R_ne HO527.out BK517.out (by decide); intro e_; exact h_ (by rw [e_]; rfl)) _; (with_reducible repeat (first | refine blk_drewN ?_ _ | refine blk_drew ?_ | refine blk_alloc ?_ _)); exact BK517.out) hb); replace BK521 := am (blk_below (g := gb521) (o := .cells #[.slice (some ⟨go41, 0, none⟩) y525.length co51, .slice Ao13 t514.length co13] 31 (0, 0)) (by (with_reducible repeat (first | refine blk_drewN ?_ _ | refine blk_drew ?_ | refine blk_alloc ?_ _)); refine blk_far ?_ (by have h_ := Kd.R_ne HO527.out BK521.out (by decide); intro e_; exact h_ (by rw [e_]; rfl)) _; (with_reducible repeat (first | refine blk_drewN ?_ _ | refine blk_drew ?_ | refine blk_alloc ?_ _)); exact BK521.out) hb); replace HO527 := am (Kd.R_below (zr HQ55) hb); replace HB := am (below_step (zb HB) hb); (try clear hb); (try clear hb2); (try clear hk); (try clear hi)))
       go_ret
       exact ⟨by first | rfl | (simp [errW_none, errW_some] <;> rfl) | (simp only [← hji38]; first | rfl | (simp [errW_none, errW_some] <;> rfl)) | (simp [*, errW_none, errW_some] <;> rfl), (zb HB)⟩
     rw [if_pos c25] at H
     have c25b0 : decide (x7_3 ≤ 8) = true := decide_eq_true c25
     clear c25
     have H' := am H
     clear H
     go_wp2
     go_loopg [8, 9] k3 (fun kq v8 v9 w' => ∃ (x8_4 : Int) (x9_4 : Int), v8 = .int .i64 x8_4 ∧ v9 = .int .i64 x9_4 ∧ Aside0 (laws_FnPoolUses.l1 kq l1 x7_3 x8_4 x9_4 t511 t514 = some r) ∧ Aside0 (kq ≤ k3) ∧ Aside0 (Kd.R k55 55 w' w.heap.size (fun _ => True) (.slice Ao11 t511.length co11) t511) ∧ Aside0 (Kd.S k38 38 w' w.heap.size (fun _ => True) (.slice Ao13 t514.length co13) t514) ∧ Aside0 (w'.heap[gb517]? = some (.cells #[(.slice Ao11 t511.length co11), (.slice Ao13 t514.length co13)] 31 (0, 0))) ∧ Aside0 (Below w.heap.size w w'))
     case atStart => exact ⟨(0), (0), ze, ze, H', ⟨Nat.le_refl _⟩, ⟨zr HO_518000⟩, ⟨zs HO_518001⟩, ⟨zk BK517⟩, ⟨zb HB⟩⟩
     case round =>
      clear H'
      try clear c1
      try clear c2
      try clear p2
      try clear c3
      try clear c4
      try clear c4b0
      try clear c4b1
      try clear c5
      try clear c10
      try clear c15
      try clear c16
      try clear c16b0
      try clear c16b1
      try clear c16b2
      try clear c17
      try clear c21
      try clear c25
      try clear c25b0
      try clear hcz12_0
      try clear hcz12_1
      try clear hcz17_0
      try clear hcz17_1
      try clear hcz19_0
      try clear hcz19_1
      try clear hcz23_0
      try clear hcz23_1
      try clear hfz12_0
      try clear hfz12_1
      try clear hfz17_0
      try clear hfz17_1
      try clear hfz19_0
      try clear hfz19_1
      try clear hfz23_0
      try clear hfz23_1
      try clear p2
      obtain ⟨x8_4, x9_4, rfl, rfl, HA, HK4, HO_518000, HO_518001, BK517, HB⟩ := hrel
      cases gk with
      | zero => exact absurd HA.out (by simp [laws_FnPoolUses.l1])
      | succ k4 =>
       have H := HA.out
       clear HA
       simp only [laws_FnPoolUses.l1] at H
       by_cases c26 : x9_4 < (t514.length : Int)
       · rw [if_pos c26] at H
         have c26b0 : decide (x9_4 < (t514.length : Int)) = true := decide_eq_true c26
         clear c26
         by_cases c27 : 0 ≤ x9_4
         rotate_left
         · rw [if_neg c27] at H
           exact absurd H (by simp)
         rw [if_pos c27] at H
         have c27b0 : decide (0 ≤ x9_4) = true := decide_eq_true c27
         clear c27
         replace H := obs H
         obtain ⟨t532, A280, H⟩ := H
         replace H : (laws_FnPoolUses.l1 k4 l1 x7_3 (wrap64 (x8_4 + t532)) (wrap64 (x9_4 + 1)) t511 t514) = some r := H
         have A28 := am A280
         clear A280
         have H' := am H
         clear H
         have hcz29_0 := ce0 BK517
         have hcz29_1 := ce1 BK517
         have hfz29_0 := bfz BK517 0
         have hfz29_1 := bfz BK517 1
         have p531 : 0 ≤ (x9_4 : Int) := of_decide_eq_true zl
         have q531 : x9_4 < (t514.length : Int) := of_decide_eq_true zl
         obtain ⟨ad531, A531_1, c531_1, e531, hx531_0, hx531_1, hl531_1, hi531_1⟩ := at_T38 (Kd.S_reads' HO_518001.out).2.2 x9_4 p531 q531
         cases e531
         obtain ⟨ce531, hce531, hMe531, hcc531⟩ := Kd.S_get HO_518001.out z38 x9_4 p531 (by first | exact q531 | exact of_decide_eq_true zl | (have e_ := (Kd.S_reads' HO_518001.out).1; omega))
         obtain ⟨ve531_1, rfl, ge531_1⟩ := k38_openM hMe531
         have hv531_1 := hcc531 1 _ rfl
         rw [add_field _ _ 1 (by omega)] at hv531_1
         replace hv531_1 := Option.some.inj (hv531_1.symm.trans hx531_1)
         rw [hv531_1] at ge531_1
         have HL531_1 := am (show Kd.R (Kd.int .i64) 3 _ _ _ _ ((rd_T38 t514 x9_4).f1) from ge531_1)
         clear hv531_1 ge531_1 hcc531 hce531
         have HR531_1 := am hi531_1
         have HC531_1 := am hl531_1
         clear hi531_1 hl531_1
         replace p531 := eq_true p531
         replace q531 := eq_true q531
         go_wp2_with (first | ((with_reducible refine gate_callee (f := 27) rfl ?_); refine gl Try.func27 54 #[.agg #[.string ((rd_T38 t514 x9_4).f0), .slice A531_1 ((rd_T38 t514 x9_4).f1).length c531_1], .int .i64 x7_3] rfl rfl rfl ?_; (with_reducible refine (impl_VolUses.calls k4 ((rd_T38 t514 x9_4).f0) _ _ ((rd_T38 t514 x9_4).f1) x7_3 t532 _ ?side1 ?side2 A28.out).mono ?_); (case side1 => exact zc (zc HR531_1.out)); (case side2 => exact HC531_1.out); rintro e w30 ⟨rfl, hb⟩; refine ⟨_, rfl, ?_⟩; replace HO_518000 := am (Kd.R_below (zr HO_518000) hb); replace HO_518001 := am (Kd.S_below (zs HO_518001) hb); replace HL531_1 := am (Kd.R_below (zr HL531_1) hb); replace BK517 := am (blk_below (zk BK517) hb); replace HR531_1 := am (Kd.C_below (zc HR531_1.out) hb); replace HB := am (below_step (zb HB) hb); (try clear hb); (try clear hb2); (try clear hk); (try clear hi)))
         go_roundg k4
         case measure => have := HJ2.out; have := HJ7.out; have := HK3.out; have := HK4.out; omega
         case rel => exact ⟨(wrap64 (x8_4 + t532)), (wrap64 (x9_4 + 1)), ze, ze, H', ⟨by have := HJ2.out; have := HJ7.out; have := HK3.out; have := HK4.out; omega⟩, ⟨zr HO_518000⟩, ⟨zs HO_518001⟩, ⟨zk BK517⟩, ⟨zb HB⟩⟩
       rw [if_neg c26] at H
       have c26b0 : decide (x9_4 < (t514.length : Int)) = false := decide_eq_false c26
       clear c26
       obtain ⟨ji31, hji31⟩ : ∃ j_ : Int, (wrap64 (x7_3 - 1)) = j_ := ⟨_, rfl⟩
       replace H : (if 0 ≤ (ji31) then (if (ji31) < (t511.length : Int) then (if x8_4 = ((rd_T55 t511 (ji31)).f1) then (laws_FnPoolUses.l0 k4 l1 (wrap64 (x7_3 + 1)) t511 t514) else (some false)) else (none)) else (none)) = some r := by first | (rw [hji31] at H; exact H) | (simp only [hji31] at H ⊢; exact H)
       have hji31w : (IntKind.i64.wrap (x7_3 - 1)) = ji31 := (i64_w _).trans hji31
       by_cases c32 : 0 ≤ (ji31)
       rotate_left
       · rw [if_neg c32] at H
         exact absurd H (by simp)
       rw [if_pos c32] at H
       have c32b0 : decide (0 ≤ (ji31)) = true := decide_eq_true c32
       clear c32
       by_cases c33 : (ji31) < (t511.length : Int)
       rotate_left
       · rw [if_neg c33] at H
         exact absurd H (by simp)
       rw [if_pos c33] at H
       have c33b0 : decide ((ji31) < (t511.length : Int)) = true := decide_eq_true c33
       clear c33
       by_cases c34 : x8_4 = ((rd_T55 t511 (ji31)).f1)
       rotate_left
       · rw [if_neg c34] at H
         have c34b0 : (x8_4 == ((rd_T55 t511 (ji31)).f1)) = false := beq_eq_false_iff_ne.mpr c34
         have c34b1 : (x8_4 != ((rd_T55 t511 (ji31)).f1)) = true := bne_iff_ne.mpr c34
         obtain rfl := Option.some.inj H
         have hcz36_0 := ce0 BK517
         have hcz36_1 := ce1 BK517
         have hfz36_0 := bfz BK517 0
         have hfz36_1 := bfz BK517 1
         have p533 : 0 ≤ ((ji31) : Int) := of_decide_eq_true zl
         have q533 : (ji31) < (t511.length : Int) := of_decide_eq_true zl
         obtain ⟨ad533, e533, hx533_0, hx533_1⟩ := at_T55 (Kd.R_reads' HO_518000.out).2.2 (ji31) p533 q533
         cases e533
         replace p533 := eq_true p533
         replace q533 := eq_true q533
         go_wp2
         go_ret
         exact ⟨by first | rfl | (simp [errW_none, errW_some] <;> rfl) | (simp only [← hji31]; first | rfl | (simp [errW_none, errW_some] <;> rfl)) | (simp [*, errW_none, errW_some] <;> rfl), (zb HB)⟩
       rw [if_pos c34] at H
       have c34b0 : (x8_4 == ((rd_T55 t511 (ji31)).f1)) = true := beq_iff_eq.mpr c34
       have c34b1 : (x8_4 != ((rd_T55 t511 (ji31)).f1)) = false := bne_eq_false_iff_eq.mpr c34
       clear c34
       have H' := am H
       clear H
       have hcz35_0 := ce0 BK517
       have hcz35_1 := ce1 BK517
       have hfz35_0 := bfz BK517 0
       have hfz35_1 := bfz BK517 1
       have p533 : 0 ≤ ((ji31) : Int) := of_decide_eq_true zl
       have q533 : (ji31) < (t511.length : Int) := of_decide_eq_true zl
       obtain ⟨ad533, e533, hx533_0, hx533_1⟩ := at_T55 (Kd.R_reads' HO_518000.out).2.2 (ji31) p533 q533
       cases e533
       replace p533 := eq_true p533
       replace q533 := eq_true q533
       go_wp2
       go_roundg k4
       case measure => have := HJ2.out; have := HJ7.out; have := HK3.out; have := HK4.out; omega
       case rel => exact ⟨(wrap64 (x7_3 + 1)), ze, H', ⟨by have := HJ2.out; have := HJ7.out; have := HK3.out; have := HK4.out; omega⟩, ⟨zr HO_518000⟩, ⟨zs HO_518001⟩, ⟨zk BK517⟩, ⟨zb HB⟩⟩
/-- THE ONE PURE STATEMENT of laws_FnPoolUses: yours. -/
def laws_FnPoolUses.Pure : Prop := ∀ (l0 : List Int) (l1 : List Int), l0.length ≤ maxLen → l0.length * 1 ≤ 140737488351232 → (∀ x ∈ l0, (Lit.int .u8 x).wf = true) → l1.length ≤ maxLen → l1.length * 1 ≤ 140737488351232 → (∀ x ∈ l1, (Lit.int .u8 x).wf = true) → ∃ k, laws_FnPoolUses.f k l0 l1 = some true
theorem laws_FnPoolUses.walk (P : laws_FnPoolUses.Pure) (a0 : Option Addr) (len0 cap0 : Nat) (z0 : List Int) (a1 : Option Addr) (len1 cap1 : Nat) (z1 : List Int) (w : World) (w0 : (a0 = none ∧ len0 = 0 ∧ cap0 = 0 ∧ z0 = []) ∨ ∃ x, a0 = some x ∧ len0 ≤ cap0 ∧ cap0 ≤ maxLen ∧ z0.length = cap0 ∧ (∀ i, i < z0.length → w.cell? (x.add i) = some (.int .u8 (z0.getD i 0))) ∧ ∀ n ∈ z0, (Lit.int .u8 n).wf = true) (y0 : len0 * 1 ≤ 140737488351232) (w1 : (a1 = none ∧ len1 = 0 ∧ cap1 = 0 ∧ z1 = []) ∨ ∃ x, a1 = some x ∧ len1 ≤ cap1 ∧ cap1 ≤ maxLen ∧ z1.length = cap1 ∧ (∀ i, i < z1.length → w.cell? (x.add i) = some (.int .u8 (z1.getD i 0))) ∧ ∀ n ∈ z1, (Lit.int .u8 n).wf = true) (y1 : len1 * 1 ≤ 140737488351232) :
 Calls Try.prog 10 #[.slice a0 len0 cap0, .slice a1 len1 cap1] w fun e w' => e = .returned (.bool true) ∧ Below w.heap.size w w' := by
 obtain ⟨l0, rfl, hr0, hm0, hw0, hc0⟩ := ReadsInt.ofRowC w0
 obtain ⟨l1, rfl, hr1, hm1, hw1, hc1⟩ := ReadsInt.ofRowC w1
 obtain ⟨k, h⟩ := P l0 l1 hm0 y0 hw0 hm1 y1 hw1
 refine (laws_FnPoolUses.calls k _ _ l0 _ _ l1 true w (Kd.C_of_reads (d := (0 : Int)) (h1 := fun _ => rfl) hr0) hc0 (Kd.C_of_reads (d := (0 : Int)) (h1 := fun _ => rfl) hr1) hc1 h).mono ?_
 rintro e w' ⟨rfl, hd⟩
 exact ⟨rfl, hd⟩
end Go.Proofs.Ytooamacekmjpaaa.PFnPoolUses
