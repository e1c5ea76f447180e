/- The walk: each function that the law comes to as a plain Lean function, and a proof that the Go code answers so. Written by this session's program over the kit's printer. -/
import Derived.Test.YtooamacekmjpaaaZ
import Derived.Test.YtooamacekmjpaaaQFnVolCount0
import Derived.Test.YtooamacekmjpaaaQFnVolCount1
namespace Go.Proofs.Ytooamacekmjpaaa.PFnVolCount
open Go.RowKit Go.Proofs.YtooamacekmjpaaaW.PrintWords Go.Proofs.YtooamacekmjpaaaW.PrintLast Go.Proofs.YtooamacekmjpaaaW.PrintMore
attribute [local go_sem] max2_int min2_int max_two min_two max_three min_three max_four min_four   -- for this text's walks alone
set_option linter.unusedVariables false
set_option linter.unusedSimpArgs false
/-! ### spec_l11Clone: function 90 -/
mutual
def spec_l11Clone.j0 : Nat → ByteArray → Int → Bool → List (S55) → List (S38) → Option ((List (S55)) × (List (S38)) × Bool)
 | 0, _, _, _, _, _ => none
 | k + 1, x2, x8, x26, x221000, x221001 => if x26 = true then (some (x221000, x221001, false)) else ((some (([] : List Int) : List Int)).bind fun y225 => (if 0 ≤ x8 then (if x8 < (x221001.length : Int) then (if y225.length + ((rd_T38 x221001 x8).f1).length < 17592186044416 then (spec_l11Clone.l0 k 0 x221000 x221001 x2 (y225 ++ ((rd_T38 x221001 x8).f1))) else (none)) else (none)) else (none)))
def spec_l11Clone.l0 : Nat → Int → List (S55) → List (S38) → ByteArray → List Int → Option ((List (S55)) × (List (S38)) × Bool)
 | 0, _, _, _, _, _ => none
 | k + 1, x10, x221000, x221001, x233000, x233001 => if x10 < (x233001.length : Int) then (if 0 ≤ x10 then (if (rd x233001 x10) > 0 then (if 0 ≤ (wrap64 ((rd x233001 x10) - 1)) then (if (wrap64 ((rd x233001 x10) - 1)) < (x221000.length : Int) then (spec_l11Clone.l0 k (wrap64 (x10 + 1)) (x221000.set ((wrap64 ((rd x233001 x10) - 1)) : Int).toNat (⟨(rd_T55 x221000 (wrap64 ((rd x233001 x10) - 1))).f0, wrap64 (((rd_T55 x221000 (wrap64 ((rd x233001 x10) - 1))).f1) + 1)⟩ : S55)) x221001 x233000 x233001) else (none)) else (none)) else (spec_l11Clone.l0 k (wrap64 (x10 + 1)) x221000 x221001 x233000 x233001)) else (none)) else ((spec_l11Add.f x221000 x221001 x233000 x233001).bind fun bt238 => (some (bt238.1, bt238.2, true)))
end
def spec_l11Clone.f (k : Nat) (l0_0 : List (S55)) (l0_1 : List (S38)) (a1 : ByteArray) (a2 : ByteArray) : Option ((List (S55)) × (List (S38)) × Bool) := (spec_l11At.f k l0_0 l0_1 a1).bind fun t222 => (if t222 < 0 then (spec_l11Clone.j0 k a2 t222 true l0_0 l0_1) else ((spec_l3Name.f a2).bind fun t223 => (if t223 = true then ((spec_l11At.f k l0_0 l0_1 a2).bind fun t224 => (spec_l11Clone.j0 k a2 t222 (decide (t224 ≥ 0)) l0_0 l0_1)) else (spec_l11Clone.j0 k a2 t222 true l0_0 l0_1))))
theorem spec_l11Clone.mono_l : ∀ k, (∀ y0 y1 y2 y3 y4, LeO (spec_l11Clone.j0 k y0 y1 y2 y3 y4) (spec_l11Clone.j0 (k + 1) y0 y1 y2 y3 y4)) ∧ (∀ y0 y1 y2 y3 y4, LeO (spec_l11Clone.l0 k y0 y1 y2 y3 y4) (spec_l11Clone.l0 (k + 1) y0 y1 y2 y3 y4))
 | 0 => ⟨fun _ _ _ _ _ r h => by simp [spec_l11Clone.j0] at h, fun _ _ _ _ _ r h => by simp [spec_l11Clone.l0] at h⟩
 | k + 1 => by
  obtain ⟨ih0, ih1⟩ := spec_l11Clone.mono_l k
  refine ⟨?_, ?_⟩
  · intro y0 y1 y2 y3 y4
    unfold spec_l11Clone.j0
    exact mo3 ih0 ih1 @spec_l11At.mono
  intro y0 y1 y2 y3 y4
  unfold spec_l11Clone.l0
  exact mo3 ih0 ih1 @spec_l11At.mono
theorem spec_l11Clone.mono : ∀ a0 a1 a2 a3 k, LeO (spec_l11Clone.f k a0 a1 a2 a3) (spec_l11Clone.f (k + 1) a0 a1 a2 a3) := by
 intro a0 a1 a2 a3 k
 obtain ⟨ih0, ih1⟩ := spec_l11Clone.mono_l k
 unfold spec_l11Clone.f
 exact mo3 ih0 ih1 @spec_l11At.mono
def spec_l11Clone.T9 : Bool × List (List Nat × List Nat) := (true, [([], []), ([0], [0]), ([], []), ([2], [2]), ([], []), ([3, 4], [3, 4]), ([5], [5]), ([6], [6]), ([], []), ([8], [8]), ([], []), ([10], [10]), ([], []), ([11, 12], [11, 12]), ([13], [13]), ([14], [14]), ([9, 15], [9, 15]), ([16], [16]), ([17], [17]), ([18], [18]), ([1, 7, 0, 1, 2, 3, 4, 5, 6, 7, 8, 9, 10, 11, 12, 13, 14, 15, 16, 17, 18, 19], [1, 7]), ([20, 0, 1, 2, 3, 4, 5, 6, 7, 8, 9, 10, 11, 12, 13, 14, 15, 16, 17, 18, 19], [20]), ([21, 19, 0, 1, 2, 3, 4, 5, 6, 7, 8, 9, 10, 11, 12, 13, 14, 15, 16, 17, 18, 19], [19, 21])])
def spec_l11Clone.B9 : List Nat := [0, 1, 0, 4, 0, 28, 60, 124, 0, 256, 0, 1024, 0, 7168, 15360, 31744, 65280, 130816, 261888, 524032, 1048575, 2097151, 4194303]
theorem spec_l11Clone.tab9 : rtab .any (opsOf Try.f90 9) = spec_l11Clone.T9 := by kernel_rfl
theorem spec_l11Clone.bits9 : waitsOk spec_l11Clone.T9.2 spec_l11Clone.B9 = true := by kernel_rfl
set_option maxHeartbeats 8000000 in
set_option maxRecDepth 100000 in
theorem spec_l11Clone.calls (k : Nat) (P0_0_ : Nat → Prop) (u9000_ : Value) (l0_0 : List (S55)) (A0_1 : Option Addr) (c0_1 : Nat) (l0_1 : List (S38)) (a1 : ByteArray) (a2 : ByteArray) (r1 : List (S55)) (r2 : List (S38)) (r3 : Bool) (w0 w : World) (hB : Below w0.heap.size w0 w) (ho0_0 : Kd.R k55 55 w w0.heap.size P0_0_ u9000_ l0_0) (hr0_1 : ∀ W_, Kept w W_ (fun k_ => P0_0_ k_) → Kd.C k38 W_ A0_1 l0_1.length l0_1) (hc0_1 : l0_1.length ≤ c0_1) (hq0_1 : Kd.S k38 38 w w0.heap.size (fun k_ => ¬ (P0_0_ k_)) (.slice A0_1 l0_1.length c0_1) l0_1) (h : spec_l11Clone.f k l0_0 l0_1 a1 a2 = some (r1, r2, r3)) :
 Calls Try.prog 90 #[.agg #[u9000_, .slice A0_1 l0_1.length c0_1], .string a1, .string a2] w fun e w' => ∃ v0_ v1_ : Value, e = .returned (.tuple #[.agg #[v0_, v1_], .bool r3]) ∧ Kd.R k55 55 w' w0.heap.size (fun k_ => (P0_0_ k_ ∨ w.heap.size ≤ k_)) v0_ r1 ∧ Kd.S k38 38 w' w0.heap.size (fun _ => True) v1_ r2 ∧ Below w0.heap.size w0 w' ∧ Kept w w' (fun k_ => P0_0_ k_) := by
 have hu31 := Try.underlying31
 have hu38 := Try.underlying38
 have HO0_0 := am (show Kd.R k55 55 w w0.heap.size (fun k_ => (P0_0_ k_ ∨ w.heap.size ≤ k_)) u9000_ l0_0 from Kd.R_mono ho0_0 (fun k_ hk => (.inl hk)))
 have HR0_1 := am hr0_1
 have HC0_1 := am hc0_1
 clear hr0_1 hc0_1
 have HK := am (Kept.refl w (fun k_ => P0_0_ k_))
 have HW0 := am hB.size
 have HB := am hB
 clear hB
 have H : ((spec_l11At.f k l0_0 l0_1 a1).bind fun t222 => (if t222 < 0 then (spec_l11Clone.j0 k a2 t222 true l0_0 l0_1) else ((spec_l3Name.f a2).bind fun t223 => (if t223 = true then ((spec_l11At.f k l0_0 l0_1 a2).bind fun t224 => (spec_l11Clone.j0 k a2 t222 (decide (t224 ≥ 0)) l0_0 l0_1)) else (spec_l11Clone.j0 k a2 t222 true l0_0 l0_1))))) = some (r1, r2, r3) := h
 clear h
 replace H := obs H
 obtain ⟨t222, A40, H⟩ := H
 replace H : (if t222 < 0 then (spec_l11Clone.j0 k a2 t222 true l0_0 l0_1) else ((spec_l3Name.f a2).bind fun t223 => (if t223 = true then ((spec_l11At.f k l0_0 l0_1 a2).bind fun t224 => (spec_l11Clone.j0 k a2 t222 (decide (t224 ≥ 0)) l0_0 l0_1)) else (spec_l11Clone.j0 k a2 t222 true l0_0 l0_1)))) = some (r1, r2, r3) := H
 have A4 := am A40
 clear A40
 have HC5 := am H
 clear H
 obtain ⟨Ao6, co6, eo6⟩ := Kd.R_slice HO0_0.out
 subst eo6
 go_enter Try.func90, Try.ntmps90
 go_upto_region 2 with (first | ((with_reducible refine gate_dst (N := 3) rfl ?_); refine bx 31 #[.slice Ao6 l0_0.length co6, .slice A0_1 l0_1.length c0_1] ?_; intro gb220 hg w7 hbox hb; replace HO0_0 := am (Kd.R_below (zr HO0_0) hb); have BK220 := am (hbox); have GW220 := am ((by rw [hg]; exact (by first | exact HK.out.1 | exact (show Kept w _ (fun k_ => P0_0_ k_) from (zq HK)).1) : w.heap.size ≤ gb220)); replace HK := am (Kept.below (S := (fun k_ => P0_0_ k_)) (zq HK) hb); have GE220 := am (zn hg (zb HB)); replace HB := am (below_step (zb HB) hb); clear hb hbox hg) | ((with_reducible refine gate_dst (N := 6) rfl ?_); refine bx 31 #[.slice none 0 0, .slice none 0 0] ?_; intro gb221 hg w8 hbox hb; replace HO0_0 := am (Kd.R_below (zr HO0_0) hb); have BK221 := am (hbox); have GW221 := am ((by rw [hg]; exact (by first | exact HK.out.1 | exact (show Kept w _ (fun k_ => P0_0_ k_) from (zq HK)).1) : w.heap.size ≤ gb221)); replace HK := am (Kept.below (S := (fun k_ => P0_0_ k_)) (zq HK) hb); have GE221 := am (zn hg (zb HB)); replace HB := am (below_step (zb HB) hb); have NB220_221 := am (zx hg (zk BK220)); have NB221_220 := am (zy hg (zk BK220)); replace BK220 := am (blk_below (zk BK220) hb); clear hb hbox hg; have hnb9 := NB220_221.out; have hnc9 := NB221_220.out; have hcz10_0 := ce0 BK220; have hcz10_1 := ce1 BK220; have hfz10_0 := bfz BK220 0; have hfz10_1 := bfz BK220 1) | ((with_reducible refine gate_callee (f := 57) rfl ?_); refine gl Try.func57 13 #[.agg #[.slice Ao6 l0_0.length co6, .slice A0_1 l0_1.length c0_1], .string a1] rfl rfl rfl ?_; (with_reducible refine (spec_l11At.calls k _ _ l0_0 _ _ l0_1 a1 t222 _ ?side1 ?side2 ?side3 ?side4 A4.out).mono ?_); (case side1 => exact zc (Kd.R_reads' HO0_0.out).2.2); (case side2 => exact (Kd.R_reads' HO0_0.out).2.1); (case side3 => exact Kd.C_kept_now HR0_1.out (zq HK)); (case side4 => exact HC0_1.out); rintro e w11 ⟨rfl, hb⟩; refine ⟨_, rfl, ?_⟩; replace HO0_0 := am (Kd.R_below (zr HO0_0) hb); replace BK220 := am (blk_below (zk BK220) hb); replace BK221 := am (blk_below (zk BK221) hb); replace HK := am (Kept.below (S := (fun k_ => P0_0_ k_)) (zq HK) hb); replace HB := am (below_step (zb HB) hb); (try clear hb); (try clear hb2); (try clear hk); (try clear hi)))
 (try simp only [Act.put, List.setIfInBounds_toArray, List.set_cons_zero, List.set_cons_succ])
 go_cut [26] (fun v26 wc => ∃ (kq : Nat) (x26_4 : Bool), v26 = .bool x26_4 ∧ Aside0 (spec_l11Clone.j0 kq a2 t222 x26_4 l0_0 l0_1 = some (r1, r2, r3)) ∧ Aside0 (kq ≤ k) ∧ Aside0 (Kd.R k55 55 wc w0.heap.size (fun k_ => (P0_0_ k_ ∨ w.heap.size ≤ k_)) (.slice Ao6 l0_0.length co6) l0_0) ∧ Aside0 (wc.heap[gb220]? = some (.cells #[(.slice Ao6 l0_0.length co6), (.slice A0_1 l0_1.length c0_1)] 31 (0, 0))) ∧ Aside0 (wc.heap[gb221]? = some (.cells #[(.slice none 0 0), (.slice none 0 0)] 31 (0, 0))) ∧ Aside0 (Kept w wc (fun k_ => P0_0_ k_)) ∧ Aside0 (Below w0.heap.size w0 wc))
 case first =>
  have H := HC5.out
  clear HC5
  by_cases c12 : t222 < 0
  · rw [if_pos c12] at H
    have c12b0 : decide (t222 < 0) = true := decide_eq_true c12
    clear c12
    (first | rw [c12b0] | (simp only [i64_w, i32_w]; rw [c12b0]) | skip)
    have H' := am H
    clear H
    go_wp2
    go_meet
    case rel => exact ⟨_, (true), ze, H', ⟨by first | omega | exact Nat.le_refl _⟩, ⟨zr HO0_0⟩, ⟨zk BK220⟩, ⟨zk BK221⟩, ⟨zq HK⟩, ⟨zb HB⟩⟩
  rw [if_neg c12] at H
  have c12b0 : decide (t222 < 0) = false := decide_eq_false c12
  clear c12
  (first | rw [c12b0] | (simp only [i64_w, i32_w]; rw [c12b0]) | skip)
  replace H := obs H
  obtain ⟨t223, A130, H⟩ := H
  replace H : (if t223 = true then ((spec_l11At.f k l0_0 l0_1 a2).bind fun t224 => (spec_l11Clone.j0 k a2 t222 (decide (t224 ≥ 0)) l0_0 l0_1)) else (spec_l11Clone.j0 k a2 t222 true l0_0 l0_1)) = some (r1, r2, r3) := H
  have A13 := am A130
  clear A130
  by_cases c14 : t223 = true
  rotate_left
  · replace c14 := Bool.eq_false_iff.mpr c14
    subst c14
    have H1 : (spec_l11Clone.j0 k a2 t222 true l0_0 l0_1) = some (r1, r2, r3) := by rw [if_neg (show ¬ (false = true) by decide)] at H; exact H
    clear H
    have H := H1
    clear H1
    have H' := am H
    clear H
    go_wp2_with (first | (go_at_call 56; (with_reducible refine (spec_l3Name.calls a2 false _ A13.out).mono ?_); rintro e w' ⟨rfl, ⟨nd, rfl⟩⟩))
    go_meet
    case rel => exact ⟨_, (true), ze, H', ⟨by first | omega | exact Nat.le_refl _⟩, ⟨zr HO0_0⟩, ⟨zk BK220⟩, ⟨zk BK221⟩, ⟨zq HK⟩, ⟨zb HB⟩⟩
  subst c14
  have H1 : ((spec_l11At.f k l0_0 l0_1 a2).bind fun t224 => (spec_l11Clone.j0 k a2 t222 (decide (t224 ≥ 0)) l0_0 l0_1)) = some (r1, r2, r3) := by rw [if_pos rfl] at H; exact H
  clear H
  have H := H1
  clear H1
  replace H := obs H
  obtain ⟨t224, A150, H⟩ := H
  replace H : (spec_l11Clone.j0 k a2 t222 (decide (t224 ≥ 0)) l0_0 l0_1) = some (r1, r2, r3) := H
  have A15 := am A150
  clear A150
  have H' := am H
  clear H
  go_wp2_with (first | (go_at_call 56; (with_reducible refine (spec_l3Name.calls a2 true _ A13.out).mono ?_); rintro e w' ⟨rfl, ⟨nd, rfl⟩⟩; have hnb16 := NB220_221.out; have hnc16 := NB221_220.out; have hcz17_0 := ce0 BK220; have hcz17_1 := ce1 BK220; have hfz17_0 := bfz BK220 0; have hfz17_1 := bfz BK220 1) | (go_at_call 57; (with_reducible refine (spec_l11At.calls k _ _ l0_0 _ _ l0_1 a2 t224 _ ?side1 ?side2 ?side3 ?side4 A15.out).mono ?_); (case side1 => exact zc (Kd.R_reads' HO0_0.out).2.2); (case side2 => exact (Kd.R_reads' HO0_0.out).2.1); (case side3 => exact Kd.C_kept_now HR0_1.out (zq HK)); (case side4 => exact HC0_1.out); rintro e w18 ⟨rfl, hb⟩; replace HO0_0 := am (Kd.R_below (zr HO0_0) hb); replace BK220 := am (blk_below (zk BK220) hb); replace BK221 := am (blk_below (zk BK221) hb); replace HK := am (Kept.below (S := (fun k_ => P0_0_ k_)) (zq HK) hb); replace HB := am (below_step (zb HB) hb); (try clear hb); (try clear hb2); (try clear hk); (try clear hi)))
  go_meet
  case rel => exact ⟨_, (decide (t224 ≥ 0)), ze, H', ⟨by first | omega | exact Nat.le_refl _⟩, ⟨zr HO0_0⟩, ⟨zk BK220⟩, ⟨zk BK221⟩, ⟨zq HK⟩, ⟨zb HB⟩⟩
 clear HC5
 try clear c1
 try clear p2
 try clear c5
 try clear c9
 try clear c12
 try clear c12b0
 try clear c14
 try clear c16
 try clear hcz10_0
 try clear hcz10_1
 try clear hcz17_0
 try clear hcz17_1
 try clear hfz10_0
 try clear hfz10_1
 try clear hfz17_0
 try clear hfz17_1
 obtain ⟨kq, x26_4, rfl, HA, HJ4, HO_221000, BK220, BK221, HK, HB⟩ := hcut
 cases kq with
 | zero => exact absurd HA.out (by simp [spec_l11Clone.j0])
 | succ kj4 =>
  have H := HA.out
  clear HA
  simp only [spec_l11Clone.j0] at H
  by_cases c19 : x26_4 = true
  · subst c19
    have H1 : (some (l0_0, l0_1, false)) = some (r1, r2, r3) := by rw [if_pos rfl] at H; exact H
    clear H
    have H := H1
    clear H1
    simp only [Option.some.injEq, Prod.mk.injEq] at H
    obtain ⟨rfl, rfl, rfl⟩ := H
    have hnb20 := NB220_221.out
    have hnc20 := NB221_220.out
    have hcz21_0 := ce0 BK220
    have hcz21_1 := ce1 BK220
    have hfz21_0 := bfz BK220 0
    have hfz21_1 := bfz BK220 1
    have hcz22_0 := ce0 BK221
    have hcz22_1 := ce1 BK221
    have hfz22_0 := bfz BK221 0
    have hfz22_1 := bfz BK221 1
    go_wp2
    refine bodyPost_ret (results_ct rfl _ _ gb221 31 #[.slice Ao6 l0_0.length co6, .slice A0_1 l0_1.length c0_1] (0, 0) _ rfl (zp BK221) Try.underlying31 rfl (by kernel_rfl)) rfl ?_
    exact ⟨_, _, zw, (rf HO_221000 BK221), (Kd.S_mono (Kd.S_kept hq0_1 (zq HK) (fun k_ hk h_ => hk h_)) (fun _ _ => trivial)), (zb HB), (zq HK)⟩
  replace c19 := Bool.eq_false_iff.mpr c19
  subst c19
  have H1 : ((some (([] : List Int) : List Int)).bind fun y225 => (if 0 ≤ t222 then (if t222 < (l0_1.length : Int) then (if y225.length + ((rd_T38 l0_1 t222).f1).length < 17592186044416 then (spec_l11Clone.l0 kj4 0 l0_0 l0_1 a2 (y225 ++ ((rd_T38 l0_1 t222).f1))) else (none)) else (none)) else (none))) = some (r1, r2, r3) := by rw [if_neg (show ¬ (false = true) by decide)] at H; exact H
  clear H
  have H := H1
  clear H1
  obtain ⟨y225, hy225⟩ : ∃ y_ : List Int, y_ = (([] : List Int)) := ⟨_, rfl⟩
  replace H : (if 0 ≤ t222 then (if t222 < (l0_1.length : Int) then (if y225.length + ((rd_T38 l0_1 t222).f1).length < 17592186044416 then (spec_l11Clone.l0 kj4 0 l0_0 l0_1 a2 (y225 ++ ((rd_T38 l0_1 t222).f1))) else (none)) else (none)) else (none)) = some (r1, r2, r3) := hY hy225 H
  have Ny225 := am hy225
  clear hy225
  by_cases c23 : 0 ≤ t222
  rotate_left
  · rw [if_neg c23] at H
    exact absurd H (by simp)
  rw [if_pos c23] at H
  have c23b0 : decide (0 ≤ t222) = true := decide_eq_true c23
  clear c23
  by_cases c24 : t222 < (l0_1.length : Int)
  rotate_left
  · rw [if_neg c24] at H
    exact absurd H (by simp)
  rw [if_pos c24] at H
  have c24b0 : decide (t222 < (l0_1.length : Int)) = true := decide_eq_true c24
  clear c24
  by_cases c25 : y225.length + ((rd_T38 l0_1 t222).f1).length < 17592186044416
  rotate_left
  · rw [if_neg c25] at H
    exact absurd H (by simp)
  rw [if_pos c25] at H
  have LMc25 := am c25
  clear c25
  obtain ⟨y229, hy229⟩ : ∃ y_ : List Int, y_ = (y225 ++ ((rd_T38 l0_1 t222).f1)) := ⟨_, rfl⟩
  replace H : (spec_l11Clone.l0 kj4 0 l0_0 l0_1 a2 y229) = some (r1, r2, r3) := hY hy229 H
  have Ny229 := am hy229
  clear hy229
  have H' := am H
  clear H
  go_wp2_with (first | ((with_reducible refine gate_dst (N := 29) rfl ?_); refine Kd.R_lit (Kd.int .i64) _ 3 ?hg (N := 29) ?hd (xs := ([] : List Int)) (inner := []) (ok := fun _ => True) (okp := fun _ => True) ?hr ?hp (fun _ hk => hk) trivial (Below.refl _ _) (Nat.le_refl _) (by simp) ?_; (case hd => rfl); (case hg => rfl); (case hr => first | (go_simp; done) | (go_simp; rfl)); (case hp => exact (Reps.none _ _)); intro v226 w26 ho27 hb hg_ hnew_; clear hg_ hnew_; (first | rw [← Ny225.out] at ho27 | (simp only [Int.reduceToNat] at ho27; rw [← Ny225.out] at ho27)); replace HO_221000 := am (Kd.R_below (zr HO_221000) hb); have HO227 := am (Kd.R_lower (Kd.R_newM (M := fun k_ => (P0_0_ k_ ∨ w.heap.size ≤ k_)) ho27 (by first | exact HK.out.1 | exact (show Kept w _ (fun k_ => P0_0_ k_) from (zq HK)).1) (fun k_ h_ => .inr h_)) (below_size (zb HB))); replace BK220 := am (blk_below (zk BK220) hb); replace BK221 := am (blk_below (zk BK221) hb); replace HK := am (Kept.below (S := (fun k_ => P0_0_ k_)) (zq HK) hb); replace HB := am (below_step (zb HB) hb); clear hb ho27; have hnb28 := NB220_221.out; have hnc28 := NB221_220.out; have hcz29_0 := ce0 BK220; have hcz29_1 := ce1 BK220; have hfz29_0 := bfz BK220 0; have hfz29_1 := bfz BK220 1; have p228 : 0 ≤ (t222 : Int) := of_decide_eq_true zl; have q228 : t222 < (l0_1.length : Int) := of_decide_eq_true zl; obtain ⟨ad228, A228_1, c228_1, e228, hx228_0, hx228_1, hl228_1, hi228_1⟩ := at_T38 (Kd.C_kept_now HR0_1.out HK.out) t222 p228 q228; cases e228; have HR228_1 := am hi228_1; have HC228_1 := am hl228_1; clear hi228_1 hl228_1; replace p228 := eq_true p228; replace q228 := eq_true q228) | ((with_reducible refine gate_builtin (b := .append) (xs := #[.tmp 29, .tmp 35]) rfl ?_); at_builtin; refine Kd.R_append_rows (Kd.int .i64) (w0 := w0) w0.heap.size rfl (.tmp 29) (.tmp 35) 36 3 (.int .i64 0) 8 rfl Try.underlying36 info3 rfl (by decide) (by omega) v226 y225 ((rd_T38 l0_1 t222).f1) _ _ _ (fun k_ => (P0_0_ k_ ∨ w.heap.size ≤ k_)) (fun _ => False) rfl rfl ?aO ?aR (fun _ _ h => h) (fun _ h => h.elim) ?aF ?aB ?aS ?aL ?_; (case aR => repeat (first | exact (zc HR228_1.out) | (with_reducible refine Kd.C_alloc ?_ _) | (with_reducible refine Kd.C_drewN ?_ _) | (with_reducible refine Kd.C_drew ?_))); (case aB => exact (zb HB)); (case aF => exact (fun k_ hk => (.inr (Nat.le_trans (by first | exact HK.out.1 | exact (show Kept w _ (fun k_ => P0_0_ k_) from (zq HK)).1) hk)))); (case aO => exact (by (with_reducible repeat (first | apply Kd.R_alloc | apply Kd.R_drewN | apply Kd.R_drew)); exact Kd.R_mono HO227.out (fun _ hk => hk.1))); (case aS => exact (below_size (zb HB))); (case aL => have := LMc25.out; omega); intro v230 w30 ho hb hg hat; rw [← Ny229.out] at ho; replace HO_221000 := am (Kd.R_over' (zr HO_221000) (Kd.R_typed (zr HO227)) (by decide) hg); replace BK220 := am (blk_grown (zk BK220) hg (Kd.R_ne HO227.out BK220.out (by decide))); replace BK221 := am (blk_grown (zk BK221) hg (Kd.R_ne HO227.out BK221.out (by decide))); replace HB := am (hb); replace HK := am (Kept.of_grown (S := (fun k_ => P0_0_ k_)) hg (zq HK) (fun k_ e_ => (HO227.out.1 k_ e_).1)); have HO231 := am (ho); clear HO227; clear ho hb hg hat; obtain ⟨Ao31, co31, eo31⟩ := Kd.R_slice HO231.out; subst eo31) | ((with_reducible refine gate_dst (N := 9) rfl ?_); refine bx 38 #[.string (⟨#[]⟩ : ByteArray), .slice none 0 0] ?_; intro gb232 hg w32 hbox hb; replace HO_221000 := am (Kd.R_below (zr HO_221000) hb); replace HO231 := am (Kd.R_below (zr HO231) hb); have BK232 := am (hbox); have GW232 := am ((by rw [hg]; exact (by first | exact HK.out.1 | exact (show Kept w _ (fun k_ => P0_0_ k_) from (zq HK)).1) : w.heap.size ≤ gb232)); replace HK := am (Kept.below (S := (fun k_ => P0_0_ k_)) (zq HK) hb); have GE232 := am (zn hg (zb HB)); replace HB := am (below_step (zb HB) hb); have NB220_232 := am (zx hg (zk BK220)); have NB232_220 := am (zy hg (zk BK220)); replace BK220 := am (blk_below (zk BK220) hb); have NB221_232 := am (zx hg (zk BK221)); have NB232_221 := am (zy hg (zk BK221)); replace BK221 := am (blk_below (zk BK221) hb); clear hb hbox hg; have hnb33 := NB232_220.out; have hnc33 := NB220_232.out; have hnb34 := NB232_221.out; have hnc34 := NB221_232.out; have hcz35_0 := ce0 BK232; have hcz35_1 := ce1 BK232; have hfz35_0 := bfz BK232 0; have hfz35_1 := bfz BK232 1))
  go_loopg [10] kj4 (fun kq v10 w' => ∃ (x10_2 : Int) (x221000_2 : List (S55)) (u221000 : Value), v10 = .int .i64 x10_2 ∧ Aside0 (spec_l11Clone.l0 kq x10_2 x221000_2 l0_1 a2 y229 = some (r1, r2, r3)) ∧ Aside0 (kq ≤ kj4) ∧ Aside0 (Kd.R k55 55 w' w0.heap.size (fun k_ => (P0_0_ k_ ∨ w.heap.size ≤ k_)) u221000 x221000_2) ∧ Aside0 (Kd.R (Kd.int .i64) 3 w' w0.heap.size (fun k_ => (P0_0_ k_ ∨ w.heap.size ≤ k_)) (.slice Ao31 y229.length co31) y229) ∧ Aside0 (w'.heap[gb220]? = some (.cells #[u221000, (.slice (some ad228) l0_1.length c0_1)] 31 (0, 0))) ∧ Aside0 (w'.heap[gb221]? = some (.cells #[(.slice none 0 0), (.slice none 0 0)] 31 (0, 0))) ∧ Aside0 (w'.heap[gb232]? = some (.cells #[.string a2, (.slice Ao31 y229.length co31)] 38 (0, 0))) ∧ Aside0 (Kept w w' (fun k_ => P0_0_ k_)) ∧ Aside0 (Below w0.heap.size w0 w'))
  case atStart => exact ⟨(0), (l0_0), (.slice Ao6 l0_0.length co6), ze, H', ⟨Nat.le_refl _⟩, ⟨(rf HO_221000 BK232)⟩, ⟨(rf HO231 BK232)⟩, ⟨zk BK220⟩, ⟨zk BK221⟩, ⟨zp BK232⟩, ⟨zq HK⟩, ⟨zb HB⟩⟩
  case round =>
   clear H'
   try clear c1
   try clear c2
   try clear p2
   try clear q2
   try clear hx2
   try clear c3
   try clear c5
   try clear c9
   try clear c12
   try clear c12b0
   try clear c14
   try clear c16
   try clear c19
   try clear c20
   try clear c22
   try clear p22
   try clear q22
   try clear hx22
   try clear c23
   try clear c23b0
   try clear c24
   try clear c24b0
   try clear c25
   try clear c28
   try clear c33
   try clear c34
   try clear hcz10_0
   try clear hcz10_1
   try clear hcz17_0
   try clear hcz17_1
   try clear hcz21_0
   try clear hcz21_1
   try clear hcz22_0
   try clear hcz22_1
   try clear hcz29_0
   try clear hcz29_1
   try clear hcz35_0
   try clear hcz35_1
   try clear hfz10_0
   try clear hfz10_1
   try clear hfz17_0
   try clear hfz17_1
   try clear hfz21_0
   try clear hfz21_1
   try clear hfz22_0
   try clear hfz22_1
   try clear hfz29_0
   try clear hfz29_1
   try clear hfz35_0
   try clear hfz35_1
   try clear hx228_0
   try clear hx228_1
   try clear p2
   try clear p228
   try clear q228
   obtain ⟨x10_2, x221000_2, u221000, rfl, HA, HK2, HO_221000, HO_233001, BK220, BK221, BK232, HK, HB⟩ := hrel
   cases gk with
   | zero => exact absurd HA.out (by simp [spec_l11Clone.l0])
   | succ k2 =>
    have H := HA.out
    clear HA
    simp only [spec_l11Clone.l0] at H
    by_cases c36 : x10_2 < (y229.length : Int)
    rotate_left
    · rw [if_neg c36] at H
      have c36b0 : decide (x10_2 < (y229.length : Int)) = false := decide_eq_false c36
      clear c36
      replace H := obs H
      obtain ⟨⟨t238, t241⟩, A520, H⟩ := H
      replace H : (some (t238, t241, true)) = some (r1, r2, r3) := H
      have A52 := am A520
      clear A520
      simp only [Option.some.injEq, Prod.mk.injEq] at H
      obtain ⟨rfl, rfl, rfl⟩ := H
      have hnb53 := NB232_220.out
      have hnc53 := NB220_232.out
      have hnb54 := NB232_221.out
      have hnc54 := NB221_232.out
      have hcz55_0 := ce0 BK232
      have hcz55_1 := ce1 BK232
      have hfz55_0 := bfz BK232 0
      have hfz55_1 := bfz BK232 1
      have hnb56 := NB220_221.out
      have hnc56 := NB221_220.out
      have hcz57_0 := ce0 BK220
      have hcz57_1 := ce1 BK220
      have hfz57_0 := bfz BK220 0
      have hfz57_1 := bfz BK220 1
      obtain ⟨Ao58, co58, eo58⟩ := Kd.R_slice HO_221000.out
      subst eo58
      go_wp2_with (first | ((with_reducible refine gate_callee (f := 95) rfl ?_); refine gl Try.func95 75 #[.agg #[.slice Ao58 x221000_2.length co58, .slice (some ad228) l0_1.length c0_1], .agg #[.string a2, .slice Ao31 y229.length co31]] rfl rfl rfl ?_; (with_reducible refine (spec_l11Add.calls _ _ x221000_2 _ _ l0_1 a2 _ _ y229 t238 t241 _ ?side1 ?side2 ?side3 ?side4 ?side5 ?side6 A52.out w0.heap.size ?sb (fun k_ => (P0_0_ k_ ∨ w.heap.size ≤ k_)) (fun k_ => (P0_0_ k_ ∨ w.heap.size ≤ k_)) ?sq ?sS ?sv).mono ?_); (case side1 => exact zc (Kd.R_reads' HO_221000.out).2.2); (case side2 => exact (Kd.R_reads' HO_221000.out).2.1); (case side3 => exact Kd.C_kept_now HR0_1.out (zq HK)); (case side4 => exact HC0_1.out); (case side5 => exact zc (Kd.R_reads' HO_233001.out).2.2); (case side6 => exact (Kd.R_reads' HO_233001.out).2.1); (case sb => exact below_size (show Below w0.heap.size w0 _ from (zb HB))); (case sq => exact Kd.R_mono (zr HO_221000) (fun _ hk => by first | exact hk | exact hk.1 | exact hk.1.1)); (case sS => exact Kd.S_mono (Kd.S_kept (Kd.S_bound hq0_1) (zq HK) (fun k hk h2 => hk.1 h2)) (fun k hk h2 => h2.elim hk.1 (fun h3 => Nat.not_le.2 hk.2.2.1 h3))); (case sv => exact Kd.R_mono (zr HO_233001) (fun _ hk => by first | exact hk | exact hk.1 | exact hk.1.1)); rintro e w59 ⟨v239, v242, rfl, ho0, ho1, hb⟩; refine ⟨_, rfl, ?_⟩; replace HO_221000 := am (Kd.R_below (zr HO_221000) hb); replace HO_233001 := am (Kd.R_below (zr HO_233001) hb); have HO240 := am (ho0); have HO243 := am (ho1); replace BK220 := am (blk_below (zk BK220) hb); replace BK221 := am (blk_below (zk BK221) hb); replace BK232 := am (blk_below (zk BK232) hb); replace HK := am (Kept.below (S := (fun k_ => P0_0_ k_)) (zq HK) hb); replace HB := am (below_step (zb HB) hb); (try clear hb); (try clear hb2); (try clear hk); (try clear hi); (try clear ho0); (try clear ho1); obtain ⟨Ao60, co60, eo60⟩ := Kd.R_slice HO240.out; subst eo60; have hcz61_0 := ce0 BK221; have hcz61_1 := ce1 BK221; have hfz61_0 := bfz BK221 0; have hfz61_1 := bfz BK221 1; obtain ⟨Ao62, co62, eo62⟩ := Kd.S_slice HO243.out; subst eo62))
      refine bodyPost_ret (results_ct rfl _ _ gb221 31 #[.slice Ao60 t238.length co60, .slice Ao62 t241.length co62] (0, 0) _ rfl (zp BK221) Try.underlying31 rfl (by kernel_rfl)) rfl ?_
      exact ⟨_, _, zw, by (with_reducible repeat (first | apply Kd.R_alloc | apply Kd.R_drewN | apply Kd.R_drew)); exact Kd.R_mono (Kd.R_far (p := ⟨gb221, 1, none⟩) (Kd.R_far (p := ⟨gb221, 0, none⟩) (Kd.R_types HO240.out BK221.out (by decide)) (fun _ hk => hk.2) (.slice Ao60 t238.length co60)) (fun _ hk => hk.2) (.slice Ao62 t241.length co62)) (fun _ hk => by first | exact hk.1.1.1 | exact hk.1.1 | exact hk.1 | exact hk | trivial), by (with_reducible repeat (first | apply Kd.S_alloc | apply Kd.S_drewN | apply Kd.S_drew)); exact Kd.S_mono (Kd.S_far (p := ⟨gb221, 1, none⟩) (Kd.S_far (p := ⟨gb221, 0, none⟩) (Kd.S_types HO243.out BK221.out (by decide)) (fun _ hk => hk.2) (.slice Ao60 t238.length co60)) (fun _ hk => hk.2) (.slice Ao62 t241.length co62)) (fun _ hk => by first | exact hk.1.1.1.1 | exact hk.1.1 | exact hk.1 | exact hk | trivial), (zb HB), (zq HK)⟩
    rw [if_pos c36] at H
    have c36b0 : decide (x10_2 < (y229.length : Int)) = true := decide_eq_true c36
    clear c36
    by_cases c37 : 0 ≤ x10_2
    rotate_left
    · rw [if_neg c37] at H
      exact absurd H (by simp)
    rw [if_pos c37] at H
    have c37b0 : decide (0 ≤ x10_2) = true := decide_eq_true c37
    clear c37
    by_cases c38 : (rd y229 x10_2) > 0
    rotate_left
    · rw [if_neg c38] at H
      have c38b0 : decide (0 < (rd y229 x10_2)) = false := decide_eq_false c38
      clear c38
      have H' := am H
      clear H
      have hnb49 := NB232_220.out
      have hnc49 := NB220_232.out
      have hnb50 := NB232_221.out
      have hnc50 := NB221_232.out
      have hcz51_0 := ce0 BK232
      have hcz51_1 := ce1 BK232
      have hfz51_0 := bfz BK232 0
      have hfz51_1 := bfz BK232 1
      have p233 : 0 ≤ (x10_2 : Int) := of_decide_eq_true zl
      have q233 : x10_2 < (y229.length : Int) := of_decide_eq_true zl
      obtain ⟨ad233, e233, hx233_0⟩ := Kd.at_int (Kd.R_reads' HO_233001.out).2.2 x10_2 p233 q233
      cases e233
      replace p233 := eq_true p233
      replace q233 := eq_true q233
      go_wp2
      go_roundg k2
      case measure => have := HJ4.out; have := HK2.out; omega
      case rel => exact ⟨(wrap64 (x10_2 + 1)), (x221000_2), (u221000), ze, H', ⟨by have := HJ4.out; have := HK2.out; omega⟩, ⟨zr HO_221000⟩, ⟨zr HO_233001⟩, ⟨zk BK220⟩, ⟨zk BK221⟩, ⟨zk BK232⟩, ⟨zq HK⟩, ⟨zb HB⟩⟩
    rw [if_pos c38] at H
    have c38b0 : decide (0 < (rd y229 x10_2)) = true := decide_eq_true c38
    clear c38
    obtain ⟨ji39, hji39⟩ : ∃ j_ : Int, (wrap64 ((rd y229 x10_2) - 1)) = j_ := ⟨_, rfl⟩
    replace H : (if 0 ≤ (ji39) then (if (ji39) < (x221000_2.length : Int) then (spec_l11Clone.l0 k2 (wrap64 (x10_2 + 1)) (x221000_2.set ((ji39) : Int).toNat (⟨(rd_T55 x221000_2 (ji39)).f0, wrap64 (((rd_T55 x221000_2 (ji39)).f1) + 1)⟩ : S55)) l0_1 a2 y229) else (none)) else (none)) = some (r1, r2, r3) := by first | (rw [hji39] at H; exact H) | (simp only [hji39] at H ⊢; exact H)
    have hji39w : (IntKind.i64.wrap ((rd y229 x10_2) - 1)) = ji39 := (i64_w _).trans hji39
    by_cases c40 : 0 ≤ (ji39)
    rotate_left
    · rw [if_neg c40] at H
      exact absurd H (by simp)
    rw [if_pos c40] at H
    have c40b0 : decide (0 ≤ (ji39)) = true := decide_eq_true c40
    clear c40
    by_cases c41 : (ji39) < (x221000_2.length : Int)
    rotate_left
    · rw [if_neg c41] at H
      exact absurd H (by simp)
    rw [if_pos c41] at H
    have c41b0 : decide ((ji39) < (x221000_2.length : Int)) = true := decide_eq_true c41
    clear c41
    obtain ⟨y237, hy237⟩ : ∃ y_ : List (S55), y_ = (x221000_2.set ((ji39) : Int).toNat (⟨(rd_T55 x221000_2 (ji39)).f0, wrap64 (((rd_T55 x221000_2 (ji39)).f1) + 1)⟩ : S55)) := ⟨_, rfl⟩
    replace H : (spec_l11Clone.l0 k2 (wrap64 (x10_2 + 1)) y237 l0_1 a2 y229) = some (r1, r2, r3) := hY hy237 H
    have Ny237 := am hy237
    clear hy237
    have H' := am H
    clear H
    have hnb43 := NB232_220.out
    have hnc43 := NB220_232.out
    have hnb44 := NB232_221.out
    have hnc44 := NB221_232.out
    have hcz45_0 := ce0 BK232
    have hcz45_1 := ce1 BK232
    have hfz45_0 := bfz BK232 0
    have hfz45_1 := bfz BK232 1
    have p233 : 0 ≤ (x10_2 : Int) := of_decide_eq_true zl
    have q233 : x10_2 < (y229.length : Int) := of_decide_eq_true zl
    obtain ⟨ad233, e233, hx233_0⟩ := Kd.at_int (Kd.R_reads' HO_233001.out).2.2 x10_2 p233 q233
    cases e233
    replace p233 := eq_true p233
    replace q233 := eq_true q233
    try go_wp2
    replace HO_221000 := am (Kd.R_drew HO_221000.out)
    replace HO_233001 := am (Kd.R_drew HO_233001.out)
    replace BK220 := am (blk_drew BK220.out)
    replace BK221 := am (blk_drew BK221.out)
    replace BK232 := am (blk_drew BK232.out)
    replace HK := am (Kept.drew HK.out)
    replace HB := am (below_drew1 HB.out)
    have p234 : 0 ≤ (x10_2 : Int) := of_decide_eq_true zl
    have q234 : x10_2 < (y229.length : Int) := of_decide_eq_true zl
    obtain ⟨ad234, e234, hx234_0⟩ := Kd.at_int (Kd.R_reads' HO_233001.out).2.2 x10_2 p234 q234
    obtain rfl : ad233 = ad234 := (by injection e234)
    replace p234 := eq_true p234
    replace q234 := eq_true q234
    have p235 : 0 ≤ (x10_2 : Int) := of_decide_eq_true zl
    have q235 : x10_2 < (y229.length : Int) := of_decide_eq_true zl
    obtain ⟨ad235, e235, hx235_0⟩ := Kd.at_int (Kd.R_reads' HO_233001.out).2.2 x10_2 p235 q235
    obtain rfl : ad233 = ad235 := (by injection e235)
    replace p235 := eq_true p235
    replace q235 := eq_true q235
    obtain ⟨Ao47, co47, eo47⟩ := Kd.R_slice HO_221000.out
    (first | subst eo47 | (injection eo47 with f1_ f2_ f3_; have f4_ := f1_.symm; have f5_ := f3_.symm; clear f1_ f2_ f3_; subst f4_; subst f5_))
    have p236 : 0 ≤ ((ji39) : Int) := of_decide_eq_true zl
    have q236 : (ji39) < (x221000_2.length : Int) := of_decide_eq_true zl
    obtain ⟨ad236, e236, hx236_0, hx236_1⟩ := at_T55 (Kd.R_reads' HO_221000.out).2.2 (ji39) p236 q236
    cases e236
    replace p236 := eq_true p236
    replace q236 := eq_true q236
    have p42 : 0 ≤ ((ji39) : Int) := of_decide_eq_true zl
    have q42 : ((ji39) : Int) < ((x221000_2.length : Int) : Int) := of_decide_eq_true zl
    obtain ⟨go42, co42, eo42, gb42, gl42, cl42, HG42⟩ := Kd.R_form HO_221000.out (by omega)
    (first | cases eo42 | (injection eo42 with ea_ en_ ec_; (first | subst ea_ | (injection ea_ with ea_; subst ea_)); subst ec_; clear en_))
    have GB42 := am gb42
    have GG42 := am HG42
    clear gb42 gl42 HG42
    have HMgo42 := am (show (P0_0_ go42 ∨ w.heap.size ≤ go42) from (HO_221000.out.1 _ rfl))
    (first | simp only [add_plain] at hx236_0 | skip)
    (first | simp only [add_plain] at hx236_1 | skip)
    obtain ⟨ce42, hcl42, hM42, hcc42, hfr42⟩ := Kd.R_elem HO_221000.out z55 ((ji39) : Int) p42 q42
    obtain rfl := k55_openM hM42
    have hx42_0 : World.cell? _ ⟨go42, ((ji39) : Int).toNat * 2, none⟩ = some (.string ((rd_T55 x221000_2 (ji39)).f0)) := hcc42 0 _ rfl
    have hx42_1 : World.cell? _ ⟨go42, ((ji39) : Int).toNat * 2 + 1, none⟩ = some (.int .i64 ((rd_T55 x221000_2 (ji39)).f1)) := hcc42 1 _ rfl
    have hf42_0 : World.frozen? _ ⟨go42, ((ji39) : Int).toNat * 2, none⟩ = false := hfr42 0
    have hf42_1 : World.frozen? _ ⟨go42, ((ji39) : Int).toNat * 2 + 1, none⟩ = false := hfr42 1
    clear hcl42 hcc42 hfr42 hM42
    replace p42 := eq_true p42
    replace q42 := eq_true q42
    obtain ⟨ce48, hcl48, hM48, hcc48, hfr48⟩ := Kd.R_elem HO_221000.out z55 ((ji39) : Int) (of_decide_eq_true zl) (by have h_ : ((ji39) : Int) < ((x221000_2.length : Int) : Int) := of_decide_eq_true zl; first | exact h_ | (have e_ := (Kd.R_reads' HO_221000.out).1; omega) | simpa using h_)
    obtain rfl := k55_openM hM48
    have HP48 := (Kd.R_seg HO_221000.out ((ji39) : Int) (of_decide_eq_true zl) (by have h_ : ((ji39) : Int) < ((x221000_2.length : Int) : Int) := of_decide_eq_true zl; first | exact h_ | (have e_ := (Kd.R_reads' HO_221000.out).1; omega) | simpa using h_) (seg := [.int .i64 (wrap64 (((rd_T55 x221000_2 (ji39)).f1) + 1))]) (j := 1) hcl48 hcc48 (show 2 ≤ 2 from by decide) (x' := (⟨(rd_T55 x221000_2 (ji39)).f0, wrap64 (((rd_T55 x221000_2 (ji39)).f1) + 1)⟩ : S55)) (k55_mkM _ _ _ (⟨(rd_T55 x221000_2 (ji39)).f0, wrap64 (((rd_T55 x221000_2 (ji39)).f1) + 1)⟩ : S55) ) (fun _ hk => hk)).1
    rw [← Ny237.out] at HP48
    have HQ48 := am HP48
    clear hcl48 hcc48 hfr48 hM48 HP48
    refine start_ (n := 23) (S := fun w' => w'.cell? ⟨gb220, 0, none⟩ = some (.slice (some ⟨go42, 0, none⟩) x221000_2.length co47) ∧ w'.cell? ⟨gb220, 1, none⟩ = some (.slice (some ad228) l0_1.length c0_1) ∧ w'.cell? ⟨gb232, 0, none⟩ = some (.string a2) ∧ w'.cell? ⟨gb232, 1, none⟩ = some (.slice (some ad233) y229.length co31) ∧ w'.cell? (ad233.add (x10_2).toNat) = some (.int .i64 (rd y229 x10_2)) ∧ w'.cell? (ad233.add (x10_2).toNat) = some (.int .i64 (rd y229 x10_2)) ∧ w'.cell? ⟨go42, ((ji39)).toNat * 2, none⟩ = some (.string ((rd_T55 x221000_2 (ji39)).f0)) ∧ w'.cell? ⟨go42, ((ji39)).toNat * 2 + 1, none⟩ = some (.int .i64 ((rd_T55 x221000_2 (ji39)).f1))) (ds := [22]) (bs 23 0) (by kernel_rfl) rfl rfl ⟨ce0 BK220, ce1 BK220, ce0 BK232, ce1 BK232, hx234_0, hx235_0, hx236_0, hx236_1⟩ (fun hHeld => ?_); refine with_tabW spec_l11Clone.tab9 spec_l11Clone.bits9 (fun HT_ HW_ => ?_)
    generalize wr.drew = w46 at HO_221000 HO_233001 BK220 BK221 BK232 HK HB GG42 HQ48 hf42_0 hf42_1 hx234_0 hx235_0 hx236_0 hx236_1 hx42_0 hx42_1 hHeld ⊢
    refine pu 0 51 23 1 rfl rfl ?_
    refine pu 2 53 23 5 rfl rfl ?_
    refine pu 4 55 23 21 rfl rfl ?_
    refine pu 8 59 23 277 rfl rfl ?_
    refine pu 10 61 23 1301 rfl rfl ?_
    refine pu 12 63 23 5397 rfl rfl ?_
    refine ta8 1 52 23 5399 rfl rfl hHeld ?_
    refine ta8 3 54 23 5407 rfl rfl hHeld ?_
    refine pu 5 56 23 5439 rfl rfl ?_
    refine ta8 6 57 23 5503 rfl rfl hHeld ?_
    refine pu 7 58 23 5631 rfl rfl ?_
    refine ta8 9 60 23 6143 rfl rfl hHeld ?_
    refine ta8 11 62 23 8191 rfl rfl hHeld ?_
    refine pu 13 64 23 16383 rfl rfl ?_
    refine ta8 14 65 23 32767 rfl rfl hHeld ?_
    refine pu 15 66 23 65535 rfl rfl ?_
    refine pu 16 67 23 131071 rfl rfl ?_
    refine pu 17 68 23 262143 rfl rfl ?_
    refine ta8 18 69 23 524287 rfl rfl hHeld ?_
    refine pu 19 70 23 1048575 rfl rfl ?_
    refine pu 20 71 23 2097151 rfl rfl ?_
    refine pu 21 72 23 4194303 rfl rfl ?_
    refine la 22 23 8388607 rfl rfl (fun K hK => ?_)
    refine skip_ (w1 := ?_) (by rfl) rfl ?_ ?_
    rotate_left
    · go_simp
      rfl
    refine hK.out _ _ ?_
    clear hK K
    refine done_ (done_of HT_.out (by kernel_rfl)) ?_
    try go_wp2
    go_roundg k2
    case measure => have := HJ4.out; have := HK2.out; omega
    case rel => exact ⟨(wrap64 (x10_2 + 1)), (y237), (.slice (some ⟨go42, 0, none⟩) x221000_2.length co47), ze, H', ⟨by have := HJ4.out; have := HK2.out; omega⟩, ⟨zr HQ48⟩, ⟨by (with_reducible repeat (first | apply Kd.R_alloc | apply Kd.R_drewN | apply Kd.R_drew)); exact Kd.R_mono (Kd.R_far (p := ⟨go42, ((ji39) : Int).toNat * 2 + 1, none⟩) (Kd.R_types HO_233001.out GG42.out (by decide)) (fun _ hk => by first | exact hk.2 | trivial) (.int .i64 (wrap64 (((rd_T55 x221000_2 (ji39)).f1) + 1)))) (fun _ hk => by first | exact hk.1 | trivial)⟩, ⟨by (with_reducible repeat (first | refine blk_drewN ?_ _ | refine blk_drew ?_ | refine blk_alloc ?_ _)); refine blk_far ?_ (by have h_ := Kd.R_ne HO_221000.out BK220.out (by decide); intro e_; exact h_ (by rw [e_]; rfl)) _; (with_reducible repeat (first | refine blk_drewN ?_ _ | refine blk_drew ?_ | refine blk_alloc ?_ _)); exact BK220.out⟩, ⟨by (with_reducible repeat (first | refine blk_drewN ?_ _ | refine blk_drew ?_ | refine blk_alloc ?_ _)); refine blk_far ?_ (by have h_ := Kd.R_ne HO_221000.out BK221.out (by decide); intro e_; exact h_ (by rw [e_]; rfl)) _; (with_reducible repeat (first | refine blk_drewN ?_ _ | refine blk_drew ?_ | refine blk_alloc ?_ _)); exact BK221.out⟩, ⟨by (with_reducible repeat (first | refine blk_drewN ?_ _ | refine blk_drew ?_ | refine blk_alloc ?_ _)); refine blk_far ?_ (by have h_ := Kd.R_ne HO_221000.out BK232.out (by decide); intro e_; exact h_ (by rw [e_]; rfl)) _; (with_reducible repeat (first | refine blk_drewN ?_ _ | refine blk_drew ?_ | refine blk_alloc ?_ _)); exact BK232.out⟩, ⟨zq HK⟩, ⟨zb HB⟩⟩
end Go.Proofs.Ytooamacekmjpaaa.PFnVolCount
