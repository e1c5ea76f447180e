/- The walk: each function that the law comes to as a plain Lean function, and a proof that the Go code answers so. Written by this session's program over the kit's printer. -/
import Derived.Test.YtooamacekmjpaaaZ
import Derived.Test.YtooamacekmjpaaaQFnPoolOnce0
import Derived.Test.YtooamacekmjpaaaQFnPoolOnce5
import Derived.Test.YtooamacekmjpaaaQFnPoolOnce7
import Derived.Test.YtooamacekmjpaaaQFnPoolOnce15
namespace Go.Proofs.Ytooamacekmjpaaa.PFnPoolOnce
open Go.RowKit Go.Proofs.YtooamacekmjpaaaW.PrintWords Go.Proofs.YtooamacekmjpaaaW.PrintLast Go.Proofs.YtooamacekmjpaaaW.PrintMore
attribute [local go_sem] max2_int min2_int max_two min_two max_three min_three max_four min_four   -- for this text's walks alone
set_option linter.unusedVariables false
set_option linter.unusedSimpArgs false
/-! ### spec_DrawPoolOk: function 32 -/
def spec_DrawPoolOk.f (k : Nat) (l0 : List Int) : Option ((List (S55)) × (List (S38))) := (spec_l6Open.f l0).bind fun bt487 => ((spec_l71Pool.f k bt487.1 bt487.2).bind fun bt490 => ((spec_l6Rd_pick.f k bt487.1 bt490.2.2 5).bind fun bt498 => (if bt498.1 = 0 then (if (bt490.2.1.length : Int) > 0 then (if 0 < (bt490.2.1.length : Int) then ((spec_l6Rd_pick.f k bt487.1 bt498.2 9).bind fun bt501 => (if 0 < (((rd_T38 bt490.2.1 0).f1).length : Int) then (some (bt490.1, (bt490.2.1.set (0 : Int).toNat (⟨(rd_T38 bt490.2.1 0).f0, (((rd_T38 bt490.2.1 0).f1).set (0 : Int).toNat bt501.1)⟩ : S38)))) else (none))) else (none)) else (some (bt490.1, bt490.2.1))) else (some (bt490.1, bt490.2.1)))))
theorem spec_DrawPoolOk.mono : ∀ a0 k, LeO (spec_DrawPoolOk.f k a0) (spec_DrawPoolOk.f (k + 1) a0) := by
 intro a0 k
 unfold spec_DrawPoolOk.f
 exact mo2 @spec_l6Rd_pick.mono @spec_l71Pool.mono
def spec_DrawPoolOk.T4 : Bool × List (List Nat × List Nat) := (true, [([], []), ([0], [0]), ([1], [1]), ([2], [2]), ([3], [3]), ([], []), ([5], [5]), ([4, 0, 1, 2, 3, 4, 5, 6], [4]), ([7, 6, 6, 0, 1, 2, 3, 4, 5, 6], [6, 7])])
def spec_DrawPoolOk.B4 : List Nat := [0, 1, 3, 7, 15, 0, 32, 127, 255]
theorem spec_DrawPoolOk.tab4 : rtab .any (opsOf Try.f32 4) = spec_DrawPoolOk.T4 := by kernel_rfl
theorem spec_DrawPoolOk.bits4 : waitsOk spec_DrawPoolOk.T4.2 spec_DrawPoolOk.B4 = true := by kernel_rfl
set_option maxHeartbeats 8000000 in
set_option maxRecDepth 100000 in
theorem spec_DrawPoolOk.calls (k : Nat) (A0 : Option Addr) (c0 : Nat) (l0 : List Int) (r1 : List (S55)) (r2 : List (S38)) (w : World) (hr0 : Kd.C (Kd.int .u8) w A0 l0.length l0) (hc0 : l0.length ≤ c0) (h : spec_DrawPoolOk.f k l0 = some (r1, r2)) :
 Calls Try.prog 32 #[.slice A0 l0.length c0] w fun e w' => ∃ v0_ v1_ : Value, e = .returned (.agg #[v0_, v1_]) ∧ Kd.R k55 55 w' w.heap.size (fun _ => True) v0_ r1 ∧ Kd.S k38 38 w' w.heap.size (fun _ => True) v1_ r2 ∧ Below w.heap.size w w' := by
 have hu31 := Try.underlying31
 have HR0 := am hr0
 have HC0 := am hc0
 clear hr0 hc0
 have HB := am (Below.refl w.heap.size w)
 have H : ((spec_l6Open.f l0).bind fun bt487 => ((spec_l71Pool.f k bt487.1 bt487.2).bind fun bt490 => ((spec_l6Rd_pick.f k bt487.1 bt490.2.2 5).bind fun bt498 => (if bt498.1 = 0 then (if (bt490.2.1.length : Int) > 0 then (if 0 < (bt490.2.1.length : Int) then ((spec_l6Rd_pick.f k bt487.1 bt498.2 9).bind fun bt501 => (if 0 < (((rd_T38 bt490.2.1 0).f1).length : Int) then (some (bt490.1, (bt490.2.1.set (0 : Int).toNat (⟨(rd_T38 bt490.2.1 0).f0, (((rd_T38 bt490.2.1 0).f1).set (0 : Int).toNat bt501.1)⟩ : S38)))) else (none))) else (none)) else (some (bt490.1, bt490.2.1))) else (some (bt490.1, bt490.2.1)))))) = some (r1, r2) := h
 clear h
 replace H := obs H
 obtain ⟨⟨t487, t488⟩, A20, H⟩ := H
 replace H : ((spec_l71Pool.f k t487 t488).bind fun bt490 => ((spec_l6Rd_pick.f k t487 bt490.2.2 5).bind fun bt498 => (if bt498.1 = 0 then (if (bt490.2.1.length : Int) > 0 then (if 0 < (bt490.2.1.length : Int) then ((spec_l6Rd_pick.f k t487 bt498.2 9).bind fun bt501 => (if 0 < (((rd_T38 bt490.2.1 0).f1).length : Int) then (some (bt490.1, (bt490.2.1.set (0 : Int).toNat (⟨(rd_T38 bt490.2.1 0).f0, (((rd_T38 bt490.2.1 0).f1).set (0 : Int).toNat bt501.1)⟩ : S38)))) else (none))) else (none)) else (some (bt490.1, bt490.2.1))) else (some (bt490.1, bt490.2.1))))) = some (r1, r2) := H
 have A2 := am A20
 clear A20
 replace H := obs H
 obtain ⟨⟨t490, t493, t496⟩, A30, H⟩ := H
 replace H : ((spec_l6Rd_pick.f k t487 t496 5).bind fun bt498 => (if bt498.1 = 0 then (if (t493.length : Int) > 0 then (if 0 < (t493.length : Int) then ((spec_l6Rd_pick.f k t487 bt498.2 9).bind fun bt501 => (if 0 < (((rd_T38 t493 0).f1).length : Int) then (some (t490, (t493.set (0 : Int).toNat (⟨(rd_T38 t493 0).f0, (((rd_T38 t493 0).f1).set (0 : Int).toNat bt501.1)⟩ : S38)))) else (none))) else (none)) else (some (t490, t493))) else (some (t490, t493)))) = some (r1, r2) := H
 have A3 := am A30
 clear A30
 replace H := obs H
 obtain ⟨⟨t498, t499⟩, A40, H⟩ := H
 replace H : (if t498 = 0 then (if (t493.length : Int) > 0 then (if 0 < (t493.length : Int) then ((spec_l6Rd_pick.f k t487 t499 9).bind fun bt501 => (if 0 < (((rd_T38 t493 0).f1).length : Int) then (some (t490, (t493.set (0 : Int).toNat (⟨(rd_T38 t493 0).f0, (((rd_T38 t493 0).f1).set (0 : Int).toNat bt501.1)⟩ : S38)))) else (none))) else (none)) else (some (t490, t493))) else (some (t490, t493))) = some (r1, r2) := H
 have A4 := am A40
 clear A40
 by_cases c5 : t498 = 0
 rotate_left
 · rw [if_neg c5] at H
   have c5b0 : (t498 == 0) = false := beq_eq_false_iff_ne.mpr c5
   have c5b1 : (t498 != 0) = true := bne_iff_ne.mpr c5
   simp only [Option.some.injEq, Prod.mk.injEq] at H
   obtain ⟨rfl, rfl⟩ := H
   go_enter Try.func32, Try.ntmps32
   go_wp2_with (first | ((with_reducible refine gate_dst (N := 2) rfl ?_); (try (refine gate_guard (by rfl) ?_; dsimp only)); refine bx 31 #[.slice none 0 0, .slice none 0 0] ?_; intro gb486 hg w43 hbox hb; have BK486 := am (hbox); have GW486 := am (zn hg (zb HB)); have GE486 := am (zn hg (zb HB)); replace HB := am (below_step (zb HB) hb); clear hb hbox hg) | ((with_reducible refine gate_callee (f := 49) rfl ?_); refine gl Try.func49 6 #[.slice A0 l0.length c0] rfl rfl rfl ?_; (with_reducible refine (spec_l6Open.calls _ _ l0 t487 t488 w _ ?side1 ?side2 ?side3 A2.out).mono ?_); (case side1 => exact zb HB); (case side2 => exact HR0.out); (case side3 => exact HC0.out); rintro e w44 ⟨g489, rfl, hi, hb, hb2⟩; refine ⟨_, rfl, ?_⟩; replace HB := am (hb); have HI489 := am (hi); have NB489_486 := am (IsS93.ne_blk hi (blk_below (zk BK486) hb2) (by decide)); have NB486_489 := am (Ne.symm (IsS93.ne_blk hi (blk_below (zk BK486) hb2) (by decide))); replace BK486 := am (blk_below (zk BK486) hb2); (try clear hb); (try clear hb2); (try clear hk); (try clear hi)) | ((with_reducible refine gate_callee (f := 50) rfl ?_); refine gl Try.func50 8 #[.pointer (some ⟨g489, 0, none⟩)] rfl rfl rfl ?_; (with_reducible refine (spec_l71Pool.calls k g489 t487 t488 t490 t493 t496 w _ ?side1 ?side2 A3.out).mono ?_); (case side1 => exact zi HI489); (case side2 => exact zb HB); rintro e w45 ⟨v491, v494, rfl, ho0, ho1, hi, hb, hk⟩; refine ⟨_, rfl, ?_⟩; replace BK486 := am (KeepBut.blk hk (zk BK486) NB486_489.out (by simp)); have HO492 := am (Kd.R_lower ho0 (below_size (zb HB))); have HO495 := am (Kd.S_lower ho1 (below_size (zb HB))); replace HB := am (hb); replace HI489 := am (hi); (try clear hb); (try clear hb2); (try clear hk); (try clear hi); (try clear ho0); (try clear ho1)) | ((with_reducible refine gate_dst (N := 4) rfl ?_); (try (refine gate_guard (by rfl) ?_; dsimp only)); refine bx 31 #[.slice none 0 0, .slice none 0 0] ?_; intro gb497 hg w46 hbox hb; replace HO492 := am (Kd.R_below (zr HO492) hb); replace HO495 := am (Kd.S_below (zs HO495) hb); have BK497 := am (hbox); have GW497 := am (zn hg (zb HB)); have GE497 := am (zn hg (zb HB)); replace HB := am (below_step (zb HB) hb); have NB486_497 := am (zx hg (zk BK486)); have NB497_486 := am (zy hg (zk BK486)); replace BK486 := am (blk_below (zk BK486) hb); have NB489_497 := am (ix hg (zi HI489)); have NB497_489 := am (iy hg (zi HI489)); replace HI489 := am (IsS93.below (zi HI489) hb); clear hb hbox hg; obtain ⟨Ao47, co47, eo47⟩ := Kd.R_slice HO492.out; subst eo47; have hnb48 := NB497_486.out; have hnc48 := NB486_497.out; have hnb49 := NB497_489.out; have hnc49 := NB489_497.out; have hcz50_0 := ce0 BK497; have hcz50_1 := ce1 BK497; have hfz50_0 := bfz BK497 0; have hfz50_1 := bfz BK497 1; obtain ⟨Ao51, co51, eo51⟩ := Kd.S_slice HO495.out; subst eo51) | ((with_reducible refine gate_callee (f := 51) rfl ?_); refine gl Try.func51 10 #[.pointer (some ⟨g489, 0, none⟩), .int .i64 5] rfl rfl rfl ?_; (with_reducible refine (spec_l6Rd_pick.calls k g489 t487 t496 5 t498 t499 w _ ?side1 ?side2 A4.out).mono ?_); (case side1 => exact zi HI489); (case side2 => exact zb HB); rintro e w52 ⟨rfl, hi, hb, hk⟩; refine ⟨_, rfl, ?_⟩; replace BK486 := am (KeepBut.blk hk (zk BK486) NB486_489.out (by simp)); replace HO492 := am (Kd.R_mono (Kd.R_keep (IsS93.apart (zi HI489) (rf HO492 BK497) (by decide)) hk (fun _ h => h.2)) (fun _ h => h.1)); replace HO495 := am (Kd.S_mono (Kd.S_keep (IsS93.apartS (zi HI489) (sf HO495 BK497) (by decide)) hk (fun _ h => h.2)) (fun _ h => h.1)); replace BK497 := am (KeepBut.blk hk (g' := gb497) (o := .cells #[.slice Ao47 t490.length co47, .slice Ao51 t493.length co51] 31 (0, 0)) (zp BK497) NB497_489.out (by simp)); replace HB := am (hb); replace HI489 := am (hi); (try clear hb); (try clear hb2); (try clear hk); (try clear hi); have hcz53_0 := ce0 BK497; have hcz53_1 := ce1 BK497; have hfz53_0 := bfz BK497 0; have hfz53_1 := bfz BK497 1; have hnb54 := NB486_489.out; have hnc54 := NB489_486.out; have hcz55_0 := ce0 BK486; have hcz55_1 := ce1 BK486; have hfz55_0 := bfz BK486 0; have hfz55_1 := bfz BK486 1))
   refine bodyPost_ret (results_cell_row rfl _ _ gb486 31 #[.slice Ao47 t490.length co47, .slice Ao51 t493.length co51] (0, 0) _ rfl (zp BK486) Try.underlying31 rfl (by kernel_rfl)) rfl ?_
   exact ⟨_, _, zw, by (with_reducible repeat (first | apply Kd.R_alloc | apply Kd.R_drewN | apply Kd.R_drew)); exact Kd.R_mono (Kd.R_far (p := ⟨gb486, 1, none⟩) (Kd.R_far (p := ⟨gb486, 0, none⟩) (Kd.R_types HO492.out BK486.out (by decide)) (fun _ hk => hk.2) (.slice Ao47 t490.length co47)) (fun _ hk => hk.2) (.slice Ao51 t493.length co51)) (fun _ hk => trivial), by (with_reducible repeat (first | apply Kd.S_alloc | apply Kd.S_drewN | apply Kd.S_drew)); exact Kd.S_mono (Kd.S_far (p := ⟨gb486, 1, none⟩) (Kd.S_far (p := ⟨gb486, 0, none⟩) (Kd.S_types HO495.out BK486.out (by decide)) (fun _ hk => hk.2) (.slice Ao47 t490.length co47)) (fun _ hk => hk.2) (.slice Ao51 t493.length co51)) (fun _ hk => trivial), (zb HB)⟩
 rw [if_pos c5] at H
 have c5b0 : (t498 == 0) = true := beq_iff_eq.mpr c5
 have c5b1 : (t498 != 0) = false := bne_eq_false_iff_eq.mpr c5
 clear c5
 by_cases c6 : (t493.length : Int) > 0
 rotate_left
 · rw [if_neg c6] at H
   have c6b0 : decide (0 < (t493.length : Int)) = false := decide_eq_false c6
   have c6b1 : decide (0 < t493.length) = false := decide_eq_false (by omega)
   clear c6
   simp only [Option.some.injEq, Prod.mk.injEq] at H
   obtain ⟨rfl, rfl⟩ := H
   go_enter Try.func32, Try.ntmps32
   go_wp2_with (first | ((with_reducible refine gate_dst (N := 2) rfl ?_); (try (refine gate_guard (by rfl) ?_; dsimp only)); refine bx 31 #[.slice none 0 0, .slice none 0 0] ?_; intro gb486 hg w30 hbox hb; have BK486 := am (hbox); have GW486 := am (zn hg (zb HB)); have GE486 := am (zn hg (zb HB)); replace HB := am (below_step (zb HB) hb); clear hb hbox hg) | ((with_reducible refine gate_callee (f := 49) rfl ?_); refine gl Try.func49 6 #[.slice A0 l0.length c0] rfl rfl rfl ?_; (with_reducible refine (spec_l6Open.calls _ _ l0 t487 t488 w _ ?side1 ?side2 ?side3 A2.out).mono ?_); (case side1 => exact zb HB); (case side2 => exact HR0.out); (case side3 => exact HC0.out); rintro e w31 ⟨g489, rfl, hi, hb, hb2⟩; refine ⟨_, rfl, ?_⟩; replace HB := am (hb); have HI489 := am (hi); have NB489_486 := am (IsS93.ne_blk hi (blk_below (zk BK486) hb2) (by decide)); have NB486_489 := am (Ne.symm (IsS93.ne_blk hi (blk_below (zk BK486) hb2) (by decide))); replace BK486 := am (blk_below (zk BK486) hb2); (try clear hb); (try clear hb2); (try clear hk); (try clear hi)) | ((with_reducible refine gate_callee (f := 50) rfl ?_); refine gl Try.func50 8 #[.pointer (some ⟨g489, 0, none⟩)] rfl rfl rfl ?_; (with_reducible refine (spec_l71Pool.calls k g489 t487 t488 t490 t493 t496 w _ ?side1 ?side2 A3.out).mono ?_); (case side1 => exact zi HI489); (case side2 => exact zb HB); rintro e w32 ⟨v491, v494, rfl, ho0, ho1, hi, hb, hk⟩; refine ⟨_, rfl, ?_⟩; replace BK486 := am (KeepBut.blk hk (zk BK486) NB486_489.out (by simp)); have HO492 := am (Kd.R_lower ho0 (below_size (zb HB))); have HO495 := am (Kd.S_lower ho1 (below_size (zb HB))); replace HB := am (hb); replace HI489 := am (hi); (try clear hb); (try clear hb2); (try clear hk); (try clear hi); (try clear ho0); (try clear ho1)) | ((with_reducible refine gate_dst (N := 4) rfl ?_); (try (refine gate_guard (by rfl) ?_; dsimp only)); refine bx 31 #[.slice none 0 0, .slice none 0 0] ?_; intro gb497 hg w33 hbox hb; replace HO492 := am (Kd.R_below (zr HO492) hb); replace HO495 := am (Kd.S_below (zs HO495) hb); have BK497 := am (hbox); have GW497 := am (zn hg (zb HB)); have GE497 := am (zn hg (zb HB)); replace HB := am (below_step (zb HB) hb); have NB486_497 := am (zx hg (zk BK486)); have NB497_486 := am (zy hg (zk BK486)); replace BK486 := am (blk_below (zk BK486) hb); have NB489_497 := am (ix hg (zi HI489)); have NB497_489 := am (iy hg (zi HI489)); replace HI489 := am (IsS93.below (zi HI489) hb); clear hb hbox hg; obtain ⟨Ao34, co34, eo34⟩ := Kd.R_slice HO492.out; subst eo34; have hnb35 := NB497_486.out; have hnc35 := NB486_497.out; have hnb36 := NB497_489.out; have hnc36 := NB489_497.out; have hcz37_0 := ce0 BK497; have hcz37_1 := ce1 BK497; have hfz37_0 := bfz BK497 0; have hfz37_1 := bfz BK497 1; obtain ⟨Ao38, co38, eo38⟩ := Kd.S_slice HO495.out; subst eo38) | ((with_reducible refine gate_callee (f := 51) rfl ?_); refine gl Try.func51 10 #[.pointer (some ⟨g489, 0, none⟩), .int .i64 5] rfl rfl rfl ?_; (with_reducible refine (spec_l6Rd_pick.calls k g489 t487 t496 5 t498 t499 w _ ?side1 ?side2 A4.out).mono ?_); (case side1 => exact zi HI489); (case side2 => exact zb HB); rintro e w39 ⟨rfl, hi, hb, hk⟩; refine ⟨_, rfl, ?_⟩; replace BK486 := am (KeepBut.blk hk (zk BK486) NB486_489.out (by simp)); replace HO492 := am (Kd.R_mono (Kd.R_keep (IsS93.apart (zi HI489) (rf HO492 BK497) (by decide)) hk (fun _ h => h.2)) (fun _ h => h.1)); replace HO495 := am (Kd.S_mono (Kd.S_keep (IsS93.apartS (zi HI489) (sf HO495 BK497) (by decide)) hk (fun _ h => h.2)) (fun _ h => h.1)); replace BK497 := am (KeepBut.blk hk (g' := gb497) (o := .cells #[.slice Ao34 t490.length co34, .slice Ao38 t493.length co38] 31 (0, 0)) (zp BK497) NB497_489.out (by simp)); replace HB := am (hb); replace HI489 := am (hi); (try clear hb); (try clear hb2); (try clear hk); (try clear hi); have hcz40_0 := ce0 BK497; have hcz40_1 := ce1 BK497; have hfz40_0 := bfz BK497 0; have hfz40_1 := bfz BK497 1; have hnb41 := NB486_489.out; have hnc41 := NB489_486.out; have hcz42_0 := ce0 BK486; have hcz42_1 := ce1 BK486; have hfz42_0 := bfz BK486 0; have hfz42_1 := bfz BK486 1))
   refine bodyPost_ret (results_cell_row rfl _ _ gb486 31 #[.slice Ao34 t490.length co34, .slice Ao38 t493.length co38] (0, 0) _ rfl (zp BK486) Try.underlying31 rfl (by kernel_rfl)) rfl ?_
   exact ⟨_, _, zw, by (with_reducible repeat (first | apply Kd.R_alloc | apply Kd.R_drewN | apply Kd.R_drew)); exact Kd.R_mono (Kd.R_far (p := ⟨gb486, 1, none⟩) (Kd.R_far (p := ⟨gb486, 0, none⟩) (Kd.R_types HO492.out BK486.out (by decide)) (fun _ hk => hk.2) (.slice Ao34 t490.length co34)) (fun _ hk => hk.2) (.slice Ao38 t493.length co38)) (fun _ hk => trivial), by (with_reducible repeat (first | apply Kd.S_alloc | apply Kd.S_drewN | apply Kd.S_drew)); exact Kd.S_mono (Kd.S_far (p := ⟨gb486, 1, none⟩) (Kd.S_far (p := ⟨gb486, 0, none⟩) (Kd.S_types HO495.out BK486.out (by decide)) (fun _ hk => hk.2) (.slice Ao34 t490.length co34)) (fun _ hk => hk.2) (.slice Ao38 t493.length co38)) (fun _ hk => trivial), (zb HB)⟩
 rw [if_pos c6] at H
 have c6b0 : decide (0 < (t493.length : Int)) = true := decide_eq_true c6
 have c6b1 : decide (0 < t493.length) = true := decide_eq_true (by omega)
 clear c6
 by_cases c7 : 0 < (t493.length : Int)
 rotate_left
 · rw [if_neg c7] at H
   exact absurd H (by simp)
 rw [if_pos c7] at H
 have c7b0 : decide (0 < (t493.length : Int)) = true := decide_eq_true c7
 have c7b1 : decide (0 < t493.length) = true := decide_eq_true (by omega)
 clear c7
 replace H := obs H
 obtain ⟨⟨t501, t502⟩, A80, H⟩ := H
 replace H : (if 0 < (((rd_T38 t493 0).f1).length : Int) then (some (t490, (t493.set (0 : Int).toNat (⟨(rd_T38 t493 0).f0, (((rd_T38 t493 0).f1).set (0 : Int).toNat t501)⟩ : S38)))) else (none)) = some (r1, r2) := H
 have A8 := am A80
 clear A80
 by_cases c9 : 0 < (((rd_T38 t493 0).f1).length : Int)
 rotate_left
 · rw [if_neg c9] at H
   exact absurd H (by simp)
 rw [if_pos c9] at H
 have c9b0 : decide (0 < (((rd_T38 t493 0).f1).length : Int)) = true := decide_eq_true c9
 have c9b1 : decide (0 < ((rd_T38 t493 0).f1).length) = true := decide_eq_true (by omega)
 clear c9
 obtain ⟨y503, hy503⟩ : ∃ y_ : List Int, y_ = (((rd_T38 t493 0).f1).set (0 : Int).toNat t501) := ⟨_, rfl⟩
 replace H : (some (t490, (t493.set (0 : Int).toNat (⟨(rd_T38 t493 0).f0, y503⟩ : S38)))) = some (r1, r2) := hY hy503 H
 have Ny503 := am hy503
 clear hy503
 obtain ⟨y505, hy505⟩ : ∃ y_ : List (S38), y_ = (t493.set (0 : Int).toNat (⟨(rd_T38 t493 0).f0, y503⟩ : S38)) := ⟨_, rfl⟩
 replace H : (some (t490, y505)) = some (r1, r2) := hY hy505 H
 have Ny505 := am hy505
 clear hy505
 simp only [Option.some.injEq, Prod.mk.injEq] at H
 obtain ⟨rfl, rfl⟩ := H
 go_enter Try.func32, Try.ntmps32
 try go_wp2_with (first | ((with_reducible refine gate_dst (N := 2) rfl ?_); (try (refine gate_guard (by rfl) ?_; dsimp only)); refine bx 31 #[.slice none 0 0, .slice none 0 0] ?_; intro gb486 hg w11 hbox hb; have BK486 := am (hbox); have GW486 := am (zn hg (zb HB)); have GE486 := am (zn hg (zb HB)); replace HB := am (below_step (zb HB) hb); clear hb hbox hg) | ((with_reducible refine gate_callee (f := 49) rfl ?_); refine gl Try.func49 6 #[.slice A0 l0.length c0] rfl rfl rfl ?_; (with_reducible refine (spec_l6Open.calls _ _ l0 t487 t488 w _ ?side1 ?side2 ?side3 A2.out).mono ?_); (case side1 => exact zb HB); (case side2 => exact HR0.out); (case side3 => exact HC0.out); rintro e w12 ⟨g489, rfl, hi, hb, hb2⟩; refine ⟨_, rfl, ?_⟩; replace HB := am (hb); have HI489 := am (hi); have NB489_486 := am (IsS93.ne_blk hi (blk_below (zk BK486) hb2) (by decide)); have NB486_489 := am (Ne.symm (IsS93.ne_blk hi (blk_below (zk BK486) hb2) (by decide))); replace BK486 := am (blk_below (zk BK486) hb2); (try clear hb); (try clear hb2); (try clear hk); (try clear hi)) | ((with_reducible refine gate_callee (f := 50) rfl ?_); refine gl Try.func50 8 #[.pointer (some ⟨g489, 0, none⟩)] rfl rfl rfl ?_; (with_reducible refine (spec_l71Pool.calls k g489 t487 t488 t490 t493 t496 w _ ?side1 ?side2 A3.out).mono ?_); (case side1 => exact zi HI489); (case side2 => exact zb HB); rintro e w13 ⟨v491, v494, rfl, ho0, ho1, hi, hb, hk⟩; refine ⟨_, rfl, ?_⟩; replace BK486 := am (KeepBut.blk hk (zk BK486) NB486_489.out (by simp)); have HO492 := am (Kd.R_lower ho0 (below_size (zb HB))); have HO495 := am (Kd.S_lower ho1 (below_size (zb HB))); replace HB := am (hb); replace HI489 := am (hi); (try clear hb); (try clear hb2); (try clear hk); (try clear hi); (try clear ho0); (try clear ho1)) | ((with_reducible refine gate_dst (N := 4) rfl ?_); (try (refine gate_guard (by rfl) ?_; dsimp only)); refine bx 31 #[.slice none 0 0, .slice none 0 0] ?_; intro gb497 hg w14 hbox hb; replace HO492 := am (Kd.R_below (zr HO492) hb); replace HO495 := am (Kd.S_below (zs HO495) hb); have BK497 := am (hbox); have GW497 := am (zn hg (zb HB)); have GE497 := am (zn hg (zb HB)); replace HB := am (below_step (zb HB) hb); have NB486_497 := am (zx hg (zk BK486)); have NB497_486 := am (zy hg (zk BK486)); replace BK486 := am (blk_below (zk BK486) hb); have NB489_497 := am (ix hg (zi HI489)); have NB497_489 := am (iy hg (zi HI489)); replace HI489 := am (IsS93.below (zi HI489) hb); clear hb hbox hg; obtain ⟨Ao15, co15, eo15⟩ := Kd.R_slice HO492.out; subst eo15; have hnb16 := NB497_486.out; have hnc16 := NB486_497.out; have hnb17 := NB497_489.out; have hnc17 := NB489_497.out; have hcz18_0 := ce0 BK497; have hcz18_1 := ce1 BK497; have hfz18_0 := bfz BK497 0; have hfz18_1 := bfz BK497 1; obtain ⟨Ao19, co19, eo19⟩ := Kd.S_slice HO495.out; subst eo19) | ((with_reducible refine gate_callee (f := 51) rfl ?_); refine gl Try.func51 10 #[.pointer (some ⟨g489, 0, none⟩), .int .i64 5] rfl rfl rfl ?_; (with_reducible refine (spec_l6Rd_pick.calls k g489 t487 t496 5 t498 t499 w _ ?side1 ?side2 A4.out).mono ?_); (case side1 => exact zi HI489); (case side2 => exact zb HB); rintro e w20 ⟨rfl, hi, hb, hk⟩; refine ⟨_, rfl, ?_⟩; replace BK486 := am (KeepBut.blk hk (zk BK486) NB486_489.out (by simp)); replace HO492 := am (Kd.R_mono (Kd.R_keep (IsS93.apart (zi HI489) (rf HO492 BK497) (by decide)) hk (fun _ h => h.2)) (fun _ h => h.1)); replace HO495 := am (Kd.S_mono (Kd.S_keep (IsS93.apartS (zi HI489) (sf HO495 BK497) (by decide)) hk (fun _ h => h.2)) (fun _ h => h.1)); replace BK497 := am (KeepBut.blk hk (g' := gb497) (o := .cells #[.slice Ao15 t490.length co15, .slice Ao19 t493.length co19] 31 (0, 0)) (zp BK497) NB497_489.out (by simp)); replace HB := am (hb); replace HI489 := am (hi); (try clear hb); (try clear hb2); (try clear hk); (try clear hi); have hcz21_0 := ce0 BK497; have hcz21_1 := ce1 BK497; have hfz21_0 := bfz BK497 0; have hfz21_1 := bfz BK497 1))
 replace HO492 := am (Kd.R_drew HO492.out)
 replace HO495 := am (Kd.S_drew HO495.out)
 replace BK486 := am (blk_drew BK486.out)
 replace BK497 := am (blk_drew BK497.out)
 replace HI489 := am (IsS93.drew HI489.out)
 replace HB := am (below_drew1 HB.out)
 have p500 : 0 ≤ (0 : Int) := (by omega)
 have q500 : 0 < (t493.length : Int) := of_decide_eq_true zl
 obtain ⟨ad500, A500_1, c500_1, e500, hx500_0, hx500_1, hl500_1, hi500_1⟩ := at_T38 (Kd.S_reads' HO495.out).2.2 0 p500 q500
 cases e500
 obtain ⟨ce500, hce500, hMe500, hcc500⟩ := Kd.S_get HO495.out z38 0 p500 (by first | exact q500 | exact of_decide_eq_true zl | (have e_ := (Kd.S_reads' HO495.out).1; omega))
 obtain ⟨ve500_1, rfl, ge500_1⟩ := k38_openM hMe500
 have hv500_1 := hcc500 1 _ rfl
 rw [add_field _ _ 1 (by omega)] at hv500_1
 replace hv500_1 := Option.some.inj (hv500_1.symm.trans hx500_1)
 rw [hv500_1] at ge500_1
 have HL500_1 := am (show Kd.R (Kd.int .i64) 3 _ _ _ _ ((rd_T38 t493 0).f1) from ge500_1)
 clear hv500_1 ge500_1
 have HX500_1 := am hx500_1
 clear hcc500 hce500
 have qi500 : (0 < t493.length) = True := eq_true (by omega)
 (try rw [show ((0 : Int)).toNat = 0 from rfl] at hx500_0)
 (try rw [show 0 * 2 = 0 from rfl] at hx500_0)
 (try rw [Addr.add_zero'] at hx500_0)
 (try rw [show ((0 : Int)).toNat = 0 from rfl] at hx500_1)
 (try rw [show 0 * 2 = 0 from rfl] at hx500_1)
 (try rw [Addr.add_zero'] at hx500_1)
 have HR500_1 := am hi500_1
 have HC500_1 := am hl500_1
 clear hi500_1 hl500_1
 replace p500 := eq_true p500
 replace q500 := eq_true q500
 refine start_ (n := 9) (S := fun w' => w'.cell? ⟨gb497, 0, none⟩ = some (.slice Ao15 t490.length co15) ∧ w'.cell? ⟨gb497, 1, none⟩ = some (.slice (some ad500) t493.length co19) ∧ w'.cell? ad500 = some (.string ((rd_T38 t493 0).f0)) ∧ w'.cell? ⟨ad500.block, ad500.off + 1, none⟩ = some (.slice A500_1 ((rd_T38 t493 0).f1).length c500_1)) (ds := [8]) (bs 9 0) (by kernel_rfl) rfl rfl ⟨ce0 BK497, ce1 BK497, hx500_0, hx500_1⟩ (fun hHeld => ?_); refine with_tabW spec_DrawPoolOk.tab4 spec_DrawPoolOk.bits4 (fun HT_ HW_ => ?_)
 generalize w20.drew = w22 at HO492 HO495 BK486 BK497 HI489 HB HL500_1 HR500_1 HX500_1 hx500_0 hx500_1 hHeld ⊢
 refine pu 0 18 9 1 rfl rfl ?_
 refine pu 5 23 9 33 rfl rfl ?_
 refine ta4 1 19 9 35 rfl rfl hHeld ?_
 refine pu 2 20 9 39 rfl rfl ?_
 refine pu 3 21 9 47 rfl rfl ?_
 refine ta4 4 22 9 63 rfl rfl hHeld ?_
 refine oz 6 9 127 rfl rfl (fun K hK => ?_)
 refine gs Try.func51 #[.pointer (some ⟨g489, 0, none⟩), .int .i64 9] rfl rfl ?_
 with_reducible refine (spec_l6Rd_pick.calls k g489 t487 t499 9 t501 t502 w _ ?side1 ?side2 A8.out).mono ?_
 (case side1 => exact zi HI489)
 (case side2 => exact zb HB)
 rintro e w23 ⟨rfl, hi, hb, hk⟩
 have HS2_ := keep_cell hk (hHeld.2.2.1) (by first | (rw [add_block]; exact Kd.own_blk (IsS93.own_neS HI489.out HO495.out (by decide))) | (show (Addr.add _ _).block ≠ _; rw [add_block]; exact Kd.own_blk (IsS93.own_neS HI489.out HO495.out (by decide))) | exact Kd.own_blk (IsS93.own_neS HI489.out HO495.out (by decide)) | (dsimp only; exact Kd.own_blk (IsS93.own_neS HI489.out HO495.out (by decide))))
 have HS3_ := keep_cell hk (hHeld.2.2.2) (by first | (rw [add_block]; exact Kd.own_blk (IsS93.own_neS HI489.out HO495.out (by decide))) | (show (Addr.add _ _).block ≠ _; rw [add_block]; exact Kd.own_blk (IsS93.own_neS HI489.out HO495.out (by decide))) | exact Kd.own_blk (IsS93.own_neS HI489.out HO495.out (by decide)) | (dsimp only; exact Kd.own_blk (IsS93.own_neS HI489.out HO495.out (by decide))))
 refine ⟨_, rfl, ?_⟩
 replace BK486 := am (KeepBut.blk hk (zk BK486) NB486_489.out (by simp))
 replace HO492 := am (Kd.R_mono (Kd.R_keep (IsS93.apart (zi HI489) (zr HO492) (by decide)) hk (fun _ h => h.2)) (fun _ h => h.1))
 replace BK497 := am (KeepBut.blk hk (zk BK497) NB497_489.out (by simp))
 replace HL500_1 := am (Kd.R_mono (Kd.R_keep (IsS93.apart (zi HI489) (zr HL500_1) (by decide)) hk (fun _ h => h.2)) (fun _ h => h.1))
 replace HX500_1 := am (keep_cell hk HX500_1.out (by first | (rw [add_block]; exact Kd.own_blk (IsS93.own_neS HI489.out HO495.out (by decide))) | (show (Addr.add _ _).block ≠ _; rw [add_block]; exact Kd.own_blk (IsS93.own_neS HI489.out HO495.out (by decide))) | exact Kd.own_blk (IsS93.own_neS HI489.out HO495.out (by decide)) | (dsimp only; exact Kd.own_blk (IsS93.own_neS HI489.out HO495.out (by decide)))))
 replace HO495 := am (Kd.S_mono (Kd.S_keep (IsS93.apartS (zi HI489) (zs HO495) (by decide)) hk (fun _ h => h.2)) (fun _ h => h.1))
 replace HB := am (hb)
 replace HI489 := am (hi)
 (try clear hb)
 (try clear hb2)
 (try clear hk)
 (try clear hi)
 have p10 : 0 ≤ (0 : Int) := (by omega)
 have q10 : (0 : Int) < ((((rd_T38 t493 0).f1).length : Int) : Int) := of_decide_eq_true zl
 have qi10 : (0 < ((rd_T38 t493 0).f1).length) = True := eq_true (by omega)
 obtain ⟨go10, co10, eo10, gb10, gl10, cl10, HG10⟩ := Kd.R_form HL500_1.out (by omega)
 (first | cases eo10 | (injection eo10 with ea_ en_ ec_; (first | subst ea_ | (injection ea_ with ea_; subst ea_)); subst ec_; clear en_))
 have GB10 := am gb10
 have GG10 := am HG10
 clear gb10 gl10 HG10
 obtain ⟨hx10_0, hf10_0⟩ := Kd.R_celln 0 HL500_1.out (0 : Int) p10 q10
 (try rw [show ((0 : Int)).toNat = 0 from rfl] at hx10_0)
 (try simp only [Nat.reduceMul, Nat.zero_mul, Nat.zero_add, Nat.reduceAdd] at hx10_0)
 (try rw [show ((0 : Int)).toNat = 0 from rfl] at hf10_0)
 (try simp only [Nat.reduceMul, Nat.zero_mul, Nat.zero_add, Nat.reduceAdd] at hf10_0)
 replace p10 := eq_true p10
 replace q10 := eq_true q10
 have hq24 : (0 : Int) < (t493.length : Int) := (by have h_ : (0 : Int) < ((t493.length : Int) : Int) := of_decide_eq_true zl; first | exact h_ | (have e_ := (Kd.S_reads' HO495.out).1; omega) | simpa only [List.length_set, List.length_set] using h_)
 obtain ⟨oki24, ce24, hcl24, hM24, hcc24, hok24, hbk24⟩ := Kd.S_borrow HO495.out z38 (0 : Int) (by omega) hq24
 obtain ⟨ve24_1, rfl, ge24_1⟩ := k38_openM hM24
 have hv24 := hcc24 1 _ rfl
 rw [add_field _ _ 1 (by omega)] at hv24
 replace hv24 := Option.some.inj (hv24.symm.trans HX500_1.out)
 subst hv24
 clear hcc24 hcl24
 replace ge24_1 := (show Kd.R (Kd.int .i64) 3 _ _ _ _ ((rd_T38 t493 0).f1) from ge24_1)
 have HP24 := Kd.R_putg ge24_1 (0 : Int) t501
 have HN489_go10 := am (show g489 ≠ go10 from by have h_ := IsS93.own_ne HI489.out HL500_1.out (by decide); intro e_; exact h_ (by rw [e_]; rfl))
 rw [← Ny503.out] at HP24
 have HS24 := hbk24 HP24.2 (fun k_ e_ => by injection e_ with e_; subst e_; exact ge24_1.1 _ rfl) (x' := (⟨(rd_T38 t493 0).f0, y503⟩ : S38)) (k38_mkM _ _ _ (⟨(rd_T38 t493 0).f0, y503⟩ : S38) HP24.1)
 rw [← Ny505.out] at HS24
 have HQ24 := am HS24
 clear HP24 HS24 hbk24 hok24
 refine hK.out _ _ ⟨ce0 BK497, ce1 BK497, HS2_, HS3_⟩ (fun hHeld => ?_)
 clear hK K
 refine norm_ (a' := ?_) ?_ ?_
 rotate_left
 · show Act.put _ (some 24) _ = _
   simp only [Act.put, List.setIfInBounds_toArray, List.set_cons_zero, List.set_cons_succ, i64_w, i32_w]
   rfl
 refine pu 7 25 9 255 rfl rfl ?_
 refine la 8 9 511 rfl rfl (fun K hK => ?_)
 refine skip_ (w1 := ?_) (by rfl) rfl ?_ ?_
 rotate_left
 · go_simp
   rfl
 refine hK.out _ _ ?_
 clear hK K
 refine done_ (done_of HT_.out (by kernel_rfl)) ?_
 have n0_ : Aside0 (Kd.R k55 55 (w23.setCell ⟨go10, 0, none⟩ (.int .i64 t501)) w.heap.size (fun _ => True) (.slice Ao15 t490.length co15) t490) := ⟨by (with_reducible repeat (first | apply Kd.R_alloc | apply Kd.R_drewN | apply Kd.R_drew)); exact Kd.R_mono (Kd.R_far (p := ⟨go10, 0, none⟩) (Kd.R_types HO492.out GG10.out (by decide)) (fun _ hk => hk.2) (.int .i64 t501)) (fun _ hk => trivial)⟩
 have n1_ : Aside0 (Kd.S k38 38 (w23.setCell ⟨go10, 0, none⟩ (.int .i64 t501)) w.heap.size (fun _ => True) (.slice (some ad500) t493.length co19) y505) := ⟨zs HQ24⟩
 have n2_ : Aside0 ((w23.setCell ⟨go10, 0, none⟩ (.int .i64 t501)).heap[gb486]? = some (.cells #[.slice none 0 0, .slice none 0 0] 31 (0, 0))) := ⟨by (with_reducible repeat (first | refine blk_drewN ?_ _ | refine blk_drew ?_ | refine blk_alloc ?_ _)); refine blk_far ?_ (by have h_ := Kd.R_ne HL500_1.out BK486.out (by decide); intro e_; exact h_ (by rw [e_]; rfl)) _; (with_reducible repeat (first | refine blk_drewN ?_ _ | refine blk_drew ?_ | refine blk_alloc ?_ _)); exact BK486.out⟩
 have n3_ : Aside0 ((w23.setCell ⟨go10, 0, none⟩ (.int .i64 t501)).heap[gb497]? = some (.cells #[.slice Ao15 t490.length co15, .slice (some ad500) t493.length co19] 31 (0, 0))) := ⟨by (with_reducible repeat (first | refine blk_drewN ?_ _ | refine blk_drew ?_ | refine blk_alloc ?_ _)); refine blk_far ?_ (by have h_ := Kd.R_ne HL500_1.out BK497.out (by decide); intro e_; exact h_ (by rw [e_]; rfl)) _; (with_reducible repeat (first | refine blk_drewN ?_ _ | refine blk_drew ?_ | refine blk_alloc ?_ _)); exact BK497.out⟩
 have n4_ : Aside0 (IsS93 w (w23.setCell ⟨go10, 0, none⟩ (.int .i64 t501)) g489 t487 t502) := ⟨zi HI489⟩
 have n5_ : Aside0 (Below w.heap.size w (w23.setCell ⟨go10, 0, none⟩ (.int .i64 t501))) := ⟨zb HB⟩
 (try clear HO492)
 (try clear HO495)
 (try clear BK486)
 (try clear BK497)
 (try clear HI489)
 (try clear HB)
 generalize (w23.setCell ⟨go10, 0, none⟩ (.int .i64 t501)) = w26 at n0_ n1_ n2_ n3_ n4_ n5_ ⊢
 have HO492 := n0_
 have HO495 := n1_
 have BK486 := n2_
 have BK497 := n3_
 have HI489 := n4_
 have HB := n5_
 clear n0_ n1_ n2_ n3_ n4_ n5_
 have hcz27_0 := ce0 BK497
 have hcz27_1 := ce1 BK497
 have hfz27_0 := bfz BK497 0
 have hfz27_1 := bfz BK497 1
 have hnb28 := NB486_489.out
 have hnc28 := NB489_486.out
 have hcz29_0 := ce0 BK486
 have hcz29_1 := ce1 BK486
 have hfz29_0 := bfz BK486 0
 have hfz29_1 := bfz BK486 1
 try go_wp2
 refine bodyPost_ret (results_cell_row rfl _ _ gb486 31 #[.slice Ao15 t490.length co15, .slice (some ad500) t493.length co19] (0, 0) _ rfl (zp BK486) Try.underlying31 rfl (by kernel_rfl)) rfl ?_
 exact ⟨_, _, zw, by (with_reducible repeat (first | apply Kd.R_alloc | apply Kd.R_drewN | apply Kd.R_drew)); exact Kd.R_mono (Kd.R_far (p := ⟨gb486, 1, none⟩) (Kd.R_far (p := ⟨gb486, 0, none⟩) (Kd.R_types HO492.out BK486.out (by decide)) (fun _ hk => hk.2) (.slice Ao15 t490.length co15)) (fun _ hk => hk.2) (.slice (some ad500) t493.length co19)) (fun _ hk => trivial), by (with_reducible repeat (first | apply Kd.S_alloc | apply Kd.S_drewN | apply Kd.S_drew)); exact Kd.S_mono (Kd.S_far (p := ⟨gb486, 1, none⟩) (Kd.S_far (p := ⟨gb486, 0, none⟩) (Kd.S_types HO495.out BK486.out (by decide)) (fun _ hk => hk.2) (.slice Ao15 t490.length co15)) (fun _ hk => hk.2) (.slice (some ad500) t493.length co19)) (fun _ hk => trivial), (zb HB)⟩
/-! ### impl_StoreFree: function 35 -/
def impl_StoreFree.l0 : Nat → Int → List (S55) → Int → Int → Option (Int)
 | 0, _, _, _, _ => none
 | k + 1, x3, x9, x10, x11 => if x11 < x10 then (if 0 ≤ x11 then (if x11 < (x9.length : Int) then (if ((rd_T55 x9 x11).f1) = 0 then (impl_StoreFree.l0 k (wrap64 (x3 + 1)) x9 x10 (wrap64 (x11 + 1))) else (impl_StoreFree.l0 k x3 x9 x10 (wrap64 (x11 + 1)))) else (none)) else (none)) else (some x3)
def impl_StoreFree.f (k : Nat) (l0 : List (S55)) : Option (Int) := (impl_StoreOk.f k l0).bind fun t506 => (if t506 = true then (impl_StoreFree.l0 k 0 l0 (l0.length : Int) 0) else (some (-1)))
theorem impl_StoreFree.mono_l : ∀ k, (∀ y0 y1 y2 y3, LeO (impl_StoreFree.l0 k y0 y1 y2 y3) (impl_StoreFree.l0 (k + 1) y0 y1 y2 y3))
 | 0 => fun _ _ _ _ r h => by simp [impl_StoreFree.l0] at h
 | k + 1 => by
  have ih0 := impl_StoreFree.mono_l k
  intro y0 y1 y2 y3
  unfold impl_StoreFree.l0
  exact mo2 ih0 @impl_StoreOk.mono
theorem impl_StoreFree.mono : ∀ a0 k, LeO (impl_StoreFree.f k a0) (impl_StoreFree.f (k + 1) a0) := by
 intro a0 k
 have ih0 := impl_StoreFree.mono_l k
 unfold impl_StoreFree.f
 exact mo2 ih0 @impl_StoreOk.mono
set_option maxHeartbeats 8000000 in
set_option maxRecDepth 100000 in
theorem impl_StoreFree.calls (k : Nat) (A0 : Option Addr) (c0 : Nat) (l0 : List (S55)) (r : Int) (w : World) (hr0 : Kd.C k55 w A0 l0.length l0) (hc0 : l0.length ≤ c0) (h : impl_StoreFree.f k l0 = some r) :
 Calls Try.prog 35 #[.slice A0 l0.length c0] w fun e w' => e = .returned (.int .i64 r) ∧ Below w.heap.size w w' := by
 have hu55 := Try.underlying55
 have HR0 := am hr0
 have HC0 := am hc0
 clear hr0 hc0
 have HB := am (Below.refl w.heap.size w)
 have H : ((impl_StoreOk.f k l0).bind fun t506 => (if t506 = true then (impl_StoreFree.l0 k 0 l0 (l0.length : Int) 0) else (some (-1)))) = some r := h
 clear h
 replace H := obs H
 obtain ⟨t506, A20, H⟩ := H
 replace H : (if t506 = true then (impl_StoreFree.l0 k 0 l0 (l0.length : Int) 0) else (some (-1))) = some r := H
 have A2 := am A20
 clear A20
 by_cases c3 : t506 = true
 rotate_left
 · replace c3 := Bool.eq_false_iff.mpr c3
   subst c3
   have H1 : (some (-1)) = some r := by rw [if_neg (show ¬ (false = true) by decide)] at H; exact H
   clear H
   have H := H1
   clear H1
   obtain rfl := Option.some.inj H
   go_enter Try.func35, Try.ntmps35
   go_wp2_with (first | ((with_reducible refine gate_callee (f := 45) rfl ?_); refine gl Try.func45 7 #[.slice A0 l0.length c0] rfl rfl rfl ?_; (with_reducible refine (impl_StoreOk.calls k _ _ l0 false _ ?side1 ?side2 A2.out).mono ?_); (case side1 => repeat (first | exact HR0.out | (with_reducible refine Kd.C_alloc ?_ _) | (with_reducible refine Kd.C_drewN ?_ _) | (with_reducible refine Kd.C_drew ?_))); (case side2 => exact HC0.out); rintro e w13 ⟨rfl, hb⟩; refine ⟨_, rfl, ?_⟩; replace HB := am (below_step (zb HB) hb); (try clear hb); (try clear hb2); (try clear hk); (try clear hi)))
   go_ret
   exact ⟨zv, (zb HB)⟩
 subst c3
 have H1 : (impl_StoreFree.l0 k 0 l0 (l0.length : Int) 0) = some r := by rw [if_pos rfl] at H; exact H
 clear H
 have H := H1
 clear H1
 have H' := am H
 clear H
 go_enter Try.func35, Try.ntmps35
 go_wp2_with (first | ((with_reducible refine gate_callee (f := 45) rfl ?_); refine gl Try.func45 7 #[.slice A0 l0.length c0] rfl rfl rfl ?_; (with_reducible refine (impl_StoreOk.calls k _ _ l0 true _ ?side1 ?side2 A2.out).mono ?_); (case side1 => repeat (first | exact HR0.out | (with_reducible refine Kd.C_alloc ?_ _) | (with_reducible refine Kd.C_drewN ?_ _) | (with_reducible refine Kd.C_drew ?_))); (case side2 => exact HC0.out); rintro e w4 ⟨rfl, hb⟩; refine ⟨_, rfl, ?_⟩; replace HB := am (below_step (zb HB) hb); (try clear hb); (try clear hb2); (try clear hk); (try clear hi)))
 go_loopg [3, 11] k (fun kq v3 v11 w' => ∃ (x3_1 : Int) (x11_1 : Int), v3 = .int .i64 x3_1 ∧ v11 = .int .i64 x11_1 ∧ Aside0 (impl_StoreFree.l0 kq x3_1 l0 (l0.length : Int) x11_1 = some r) ∧ Aside0 (kq ≤ k) ∧ Aside0 (Below w.heap.size w w'))
 case atStart => exact ⟨(0), (0), ze, ze, H', ⟨Nat.le_refl _⟩, ⟨zb HB⟩⟩
 case round =>
  clear H'
  try clear p2
  try clear c3
  try clear c4
  obtain ⟨x3_1, x11_1, rfl, rfl, HA, HK1, HB⟩ := hrel
  cases gk with
  | zero => exact absurd HA.out (by simp [impl_StoreFree.l0])
  | succ k1 =>
   have H := HA.out
   clear HA
   simp only [impl_StoreFree.l0] at H
   by_cases c5 : x11_1 < (l0.length : Int)
   rotate_left
   · rw [if_neg c5] at H
     have c5b0 : decide (x11_1 < (l0.length : Int)) = false := decide_eq_false c5
     clear c5
     obtain rfl := Option.some.inj H
     go_wp2
     go_ret
     exact ⟨zv, (zb HB)⟩
   rw [if_pos c5] at H
   have c5b0 : decide (x11_1 < (l0.length : Int)) = true := decide_eq_true c5
   clear c5
   by_cases c6 : 0 ≤ x11_1
   rotate_left
   · rw [if_neg c6] at H
     exact absurd H (by simp)
   rw [if_pos c6] at H
   have c6b0 : decide (0 ≤ x11_1) = true := decide_eq_true c6
   clear c6
   by_cases c7 : x11_1 < (l0.length : Int)
   rotate_left
   · rw [if_neg c7] at H
     exact absurd H (by simp)
   rw [if_pos c7] at H
   have c7b0 : decide (x11_1 < (l0.length : Int)) = true := decide_eq_true c7
   clear c7
   by_cases c8 : ((rd_T55 l0 x11_1).f1) = 0
   · rw [if_pos c8] at H
     have c8b0 : (((rd_T55 l0 x11_1).f1) == 0) = true := beq_iff_eq.mpr c8
     have c8b1 : (((rd_T55 l0 x11_1).f1) != 0) = false := bne_eq_false_iff_eq.mpr c8
     clear c8
     have H' := am H
     clear H
     have p507 : 0 ≤ (x11_1 : Int) := of_decide_eq_true zl
     have q507 : x11_1 < (l0.length : Int) := of_decide_eq_true zl
     obtain ⟨ad507, e507, hx507_0, hx507_1⟩ := at_T55 HR0.out x11_1 p507 q507
     cases e507
     replace hx507_0 := hcx HB hx507_0
     replace hx507_1 := hcx HB hx507_1
     replace p507 := eq_true p507
     replace q507 := eq_true q507
     go_wp2_with (first | ((with_reducible refine gate_dst (N := 5) rfl ?_); refine bx 55 #[.string (⟨#[]⟩ : ByteArray), .int .i64 0] ?_; intro gb508 hg w9 hbox hb; have BK508 := am (hbox); have GW508 := am (zn hg (zb HB)); have GE508 := am (zn hg (zb HB)); replace HB := am (below_step (zb HB) hb); clear hb hbox hg; have hcz10_0 := ce0 BK508; have hcz10_1 := ce1 BK508; have hfz10_0 := bfz BK508 0; have hfz10_1 := bfz BK508 1))
     go_roundg k1
     case measure => have := HK1.out; omega
     case rel => exact ⟨(wrap64 (x3_1 + 1)), (wrap64 (x11_1 + 1)), ze, ze, H', ⟨by have := HK1.out; omega⟩, ⟨zb HB⟩⟩
   rw [if_neg c8] at H
   have c8b0 : (((rd_T55 l0 x11_1).f1) == 0) = false := beq_eq_false_iff_ne.mpr c8
   have c8b1 : (((rd_T55 l0 x11_1).f1) != 0) = true := bne_iff_ne.mpr c8
   have H' := am H
   clear H
   have p507 : 0 ≤ (x11_1 : Int) := of_decide_eq_true zl
   have q507 : x11_1 < (l0.length : Int) := of_decide_eq_true zl
   obtain ⟨ad507, e507, hx507_0, hx507_1⟩ := at_T55 HR0.out x11_1 p507 q507
   cases e507
   replace hx507_0 := hcx HB hx507_0
   replace hx507_1 := hcx HB hx507_1
   replace p507 := eq_true p507
   replace q507 := eq_true q507
   go_wp2_with (first | ((with_reducible refine gate_dst (N := 5) rfl ?_); refine bx 55 #[.string (⟨#[]⟩ : ByteArray), .int .i64 0] ?_; intro gb508 hg w11 hbox hb; have BK508 := am (hbox); have GW508 := am (zn hg (zb HB)); have GE508 := am (zn hg (zb HB)); replace HB := am (below_step (zb HB) hb); clear hb hbox hg; have hcz12_0 := ce0 BK508; have hcz12_1 := ce1 BK508; have hfz12_0 := bfz BK508 0; have hfz12_1 := bfz BK508 1))
   go_roundg k1
   case measure => have := HK1.out; omega
   case rel => exact ⟨(x3_1), (wrap64 (x11_1 + 1)), ze, ze, H', ⟨by have := HK1.out; omega⟩, ⟨zb HB⟩⟩
/-! ### impl_Vol: function 84 -/
def volRen : Go.Shelf.Ren := ⟨fun | 6 => 84 | n => n, fun | 22 => 29 | 23 => 38 | 25 => 40 | n => n, fun | n => n⟩
theorem volLay : SlLaysH0.n6 Try.prog volRen := { mixed := by kernel_rfl, f6 := ⟨Try.f84.name, by decide, Try.func84.trans (congrArg some (by kernel_rfl))⟩, t0 := Try.underlying0, a0 := Try.isAgg0, z0 := Try.sizeOf0, v0 := Try.zeroValue0, t3 := Try.underlying3, a3 := Try.isAgg3, z3 := Try.sizeOf3, v3 := Try.zeroValue3, t4 := Try.underlying4, a4 := Try.isAgg4, z4 := Try.sizeOf4, v4 := Try.zeroValue4, t22 := Try.underlying29, a22 := Try.isAgg29, z22 := Try.sizeOf29, v22 := Try.zeroValue29, t25 := Try.underlying40, a25 := Try.isAgg40, z25 := Try.sizeOf40, v25 := Try.zeroValue40 }
instance : Inhabited S38 := ⟨z38⟩
/-- A disk as its cells lie: its name, and its blocks' slice. -/
abbrev RawV := ByteArray × Option Addr × Nat × Nat
instance : Inhabited RawV := ⟨(ByteArray.empty, none, 0, 0)⟩
def encRaw (x : RawV) : List Value := [.string x.1, .slice x.2.1 x.2.2.1 x.2.2.2]
theorem vol_K {w : World} {x : S38} {cs : List Value} (h : (k38).K w x cs) : ∃ q : Option Addr × Nat, cs = encRaw (x.f0, q.1, x.f1.length, q.2) := by
 obtain ⟨c0, c1, rfl, h0, A, c, rfl, _⟩ := h
 have e0 : c0 = [.string x.f0] := h0
 exact ⟨(A, c), by rw [e0]; rfl⟩
theorem vols_cells {w : World} {A : Option Addr} {l : List S38} (h : Kd.C k38 w A l.length l) (hn : 0 < l.length) :
 ∃ (b off : Nat) (m : List RawV), A = some ⟨b, off, none⟩ ∧ b < w.heap.size ∧ m.map (fun x => x.1) = l.map (fun x => x.f0) ∧ ∀ j, j < m.length → ∀ i v, (encRaw m[j]!)[i]? = some v → w.cell? ⟨b, off + j * 2 + i, none⟩ = some v := by
 obtain ⟨ad, e, hc⟩ := h.2.2 hn
 have get : ∀ j : Nat, ∃ q : Option Addr × Nat, ∀ (hj : j < l.length), ∀ i v, (encRaw (l[j].f0, q.1, l[j].f1.length, q.2))[i]? = some v → w.cell? (ad.add (j * 2 + i)) = some v := by
  intro j
  by_cases hj : j < l.length
  · obtain ⟨c, hl, hk, hcell⟩ := hc j l[j] (List.getElem?_eq_getElem hj)
    obtain ⟨q, rfl⟩ := vol_K hk
    exact ⟨q, fun _ i v hi => hcell i v hi⟩
  exact ⟨(none, 0), fun h => absurd h hj⟩
 obtain ⟨f, hf⟩ := Classical.axiomOfChoice get
 obtain ⟨b, off, spot⟩ := ad
 have h0 := hf 0 hn 0 (.string l[0].f0) rfl
 have hs : spot = none := by
  cases spot with
  | none => rfl
  | some q =>
   exfalso
   simp only [Nat.zero_mul, Nat.add_zero, Addr.add, if_pos] at h0
   unfold World.cell? at h0
   revert h0
   cases w.heap[b]? with
   | none => simp
   | some o => cases o <;> simp
 subst hs
 refine ⟨b, off, List.ofFn fun j : Fin l.length => (l[j].f0, (f j).1, l[j].f1.length, (f j).2), e, ?_, ?_, fun j hj i v hi => ?_⟩
 · have := World.block_lt_of_cell? w _ h0
   simpa [Addr.add_lit] using this
 · refine List.ext_getElem (by simp) fun j h1 h2 => ?_
   simp
 have hj' : j < l.length := by simpa using hj
 have := hf j hj' i v (by
  rw [← hi]
  congr 1
  simp [hj'])
 rw [Addr.add_lit] at this
 rw [Nat.add_assoc]
 exact this
theorem idx_names (p : ByteArray → Bool) (d : RawV) (d' : S38) : ∀ (l : List S38) (m : List RawV) (n : Nat), m.map (fun x => x.1) = l.map (fun x => x.f0) → Lib.idxByFrom (fun _ (x : RawV) => p x.1) d m n = Lib.idxByFrom (fun _ (x : S38) => p x.f0) d' l n
 | [], [], n, _ => rfl
 | [], _ :: _, _, h => by simp at h
 | _ :: _, [], _, h => by simp at h
 | y :: l, x :: m, n, h => by
  simp only [List.map_cons, List.cons.injEq] at h
  have e := congrArg p h.1
  have hr := idx_names p d d' l m (n + 1) h.2
  by_cases c : p y.f0 = true
  · exact (if_pos (e.trans c)).trans (if_pos c).symm
  exact (if_neg (fun c2 => c (e.symm.trans c2))).trans (hr.trans (if_neg c).symm)
/-- slices.IndexFunc over disks, nil too, a predicate of the name. -/
theorem idx_vcalls (p : ByteArray → Bool) (g : Nat) (lb : Array Value) (eg : ∀ args w, (callFunc g args).run Try.prog w = .ok (.enter g args) w) (A0 : Option Addr) (c0 : Nat) (l0 : List S38) (w : World)
 (hr0 : Kd.C k38 w A0 l0.length l0) (hp : PredBelow Try.prog g lb (fun x : RawV => .agg (encRaw x).toArray) (fun x => p x.1) w) :
 Calls Try.prog 84 #[.slice A0 l0.length c0, .func (.func g) #[] lb] w fun e w' => e = .returned (.int .i64 (Lib.idxBy (fun _ (y : S38) => p y.f0) l0 default)) ∧ Below w.heap.size w w' := by
 by_cases hn : 0 < l0.length
 · obtain ⟨b, off, m, rfl, hb, hm, hc⟩ := vols_cells hr0 hn
   have hl : m.length = l0.length := by have := congrArg List.length hm; simpa using this
   have hcon := AnyQ.slices_IndexFunc volLay 2 Try.isAgg38 Try.sizeOf38 encRaw (fun _ => rfl) (fun x => p x.1) g lb eg b off l0.length c0 m w hp (by omega) hr0.2.1 hb hc
   rw [← hl, List.take_length, hl] at hcon
   refine hcon.mono fun e w' ⟨he, hb'⟩ => ⟨?_, hb'⟩
   rw [he]
   unfold Lib.idxBy
   rw [idx_names p default default l0 m 0 hm]
 obtain rfl : l0 = [] := List.eq_nil_of_length_eq_zero (by omega)
 clear hp hr0 hn
 go_enter Try.func84, Try.ntmps84
 go_wp2
 go_loopg [8] 0 (fun gg v8 w' => v8 = .int .i64 0 ∧ w' = w)
 case atStart => exact ⟨rfl, rfl⟩
 case round =>
  obtain ⟨rfl, rfl⟩ := hrel
  go_wp2
  go_ret
  exact ⟨rfl, Below.refl _ _⟩
/-! ### impl_Pool_vol: function 74 -/
/-- 'v.Name == name', name in the cell ⟨B, 0⟩ of the caller's. -/
theorem vol_pred (t : ByteArray) (B : Nat) (w : World) (hB : B < w.heap.size) (hcell : w.cell? ⟨B, 0, none⟩ = some (.string t)) :
 PredBelow Try.prog 85 #[.pointer (some ⟨B, 0, none⟩)] (fun x : RawV => .agg (encRaw x).toArray) (fun x => x.1.toList == t.toList) w := fun W x hb => by
 have hc : W.cell? ⟨B, 0, none⟩ = some (.string t) := (hb.cell (p := ⟨B, 0, none⟩) hB).trans hcell
 have hBW : B < W.heap.size := Nat.lt_of_lt_of_le hB hb.size
 have hne : B ≠ W.heap.size := by omega
 show Calls Try.prog 85 #[.agg #[.string x.1, .slice x.2.1 x.2.2.1 x.2.2.2], .pointer (some ⟨B, 0, none⟩)] W _
 go_enter Try.func85, Try.ntmps85
 go_wp2
 all_goals (go_ret; exact ⟨by first | rfl | simp_all, hb.alloc hb.size _⟩)
def impl_Pool_vol.f (l0_0 : List (S55)) (l0_1 : List (S38)) (a1 : ByteArray) : Option (Int) := some (Lib.idxBy (fun _ (y : S38) => y.f0.toList == a1.toList) l0_1 default)
set_option maxHeartbeats 1000000 in
theorem impl_Pool_vol.calls (A0_0 : Option Addr) (c0_0 : Nat) (l0_0 : List (S55)) (A0_1 : Option Addr) (c0_1 : Nat) (l0_1 : List (S38)) (a1 : ByteArray) (r : Int) (w : World) (hr0_0 : Kd.C k55 w A0_0 l0_0.length l0_0) (hc0_0 : l0_0.length ≤ c0_0) (hr0_1 : Kd.C k38 w A0_1 l0_1.length l0_1) (hc0_1 : l0_1.length ≤ c0_1) (h : impl_Pool_vol.f l0_0 l0_1 a1 = some r) :
 Calls Try.prog 74 #[.agg #[.slice A0_0 l0_0.length c0_0, .slice A0_1 l0_1.length c0_1], .string a1] w fun e w' => e = .returned (.int .i64 r) ∧ Below w.heap.size w w' := by
 have eg : ∀ args w, (callFunc 85 args).run Try.prog w = .ok (.enter 85 args) w := enters_of Try.func85 (by kernel_rfl) rfl
 have hb0 : Below w.heap.size w (w.alloc (.cells #[.slice A0_0 l0_0.length c0_0, .slice A0_1 l0_1.length c0_1] 31)) := (Below.refl _ w).alloc (Nat.le_refl _) _
 have hb1 : Below w.heap.size w ((w.alloc (.cells #[.slice A0_0 l0_0.length c0_0, .slice A0_1 l0_1.length c0_1] 31)).alloc (.cells #[.string a1] 9)) := hb0.alloc (by simp) _
 have hcon := idx_vcalls (fun x => x.toList == a1.toList) 85 #[.pointer (some ⟨w.heap.size + 1, 0, none⟩)] eg A0_1 c0_1 l0_1 _ (Kd.C_below hr0_1 hb1) (vol_pred a1 (w.heap.size + 1) _ (by simp) (by simp))
 unfold impl_Pool_vol.f at h
 generalize Lib.idxBy (fun _ (y : S38) => y.f0.toList == a1.toList) l0_1 default = x at hcon h
 obtain rfl := Option.some.inj h
 have hu := Try.underlying31
 clear hr0_0 hr0_1 hc0_0 hc0_1 h
 go_enter Try.func74, Try.ntmps74
 go_wp2_with (go_at_call 84; refine hcon.mono ?_; rintro e w' ⟨rfl, hb'⟩)
 go_ret
 exact ⟨rfl, hb1.trans (hb'.mono (by simp; omega))⟩
/-! ### impl_Pool_hasBlock: function 58 -/
def impl_Pool_hasBlock.f (l0_0 : List (S55)) (l0_1 : List (S38)) (a1 : ByteArray) (a2 : Int) : Option (Int) := (impl_Pool_vol.f l0_0 l0_1 a1).bind fun t510 => (if t510 < 0 then (some (-1)) else (if 0 ≤ t510 then (if t510 < (l0_1.length : Int) then ((impl_within.f a2 0 (wrap64 ((((rd_T38 l0_1 t510).f1).length : Int) - 1))).bind fun t512 => (if t512 = true then (some t510) else (some (-1)))) else (none)) else (none)))
set_option maxHeartbeats 8000000 in
set_option maxRecDepth 100000 in
theorem impl_Pool_hasBlock.calls (A0_0 : Option Addr) (c0_0 : Nat) (l0_0 : List (S55)) (A0_1 : Option Addr) (c0_1 : Nat) (l0_1 : List (S38)) (a1 : ByteArray) (a2 : Int) (r : Int) (w : World) (hr0_0 : Kd.C k55 w A0_0 l0_0.length l0_0) (hc0_0 : l0_0.length ≤ c0_0) (hr0_1 : Kd.C k38 w A0_1 l0_1.length l0_1) (hc0_1 : l0_1.length ≤ c0_1) (h : impl_Pool_hasBlock.f l0_0 l0_1 a1 a2 = some r) :
 Calls Try.prog 58 #[.agg #[.slice A0_0 l0_0.length c0_0, .slice A0_1 l0_1.length c0_1], .string a1, .int .i64 a2] w fun e w' => e = .returned (.int .i64 r) ∧ Below w.heap.size w w' := by
 have hu31 := Try.underlying31
 have HR0_0 := am hr0_0
 have HC0_0 := am hc0_0
 clear hr0_0 hc0_0
 have HR0_1 := am hr0_1
 have HC0_1 := am hc0_1
 clear hr0_1 hc0_1
 have HB := am (Below.refl w.heap.size w)
 have H : ((impl_Pool_vol.f l0_0 l0_1 a1).bind fun t510 => (if t510 < 0 then (some (-1)) else (if 0 ≤ t510 then (if t510 < (l0_1.length : Int) then ((impl_within.f a2 0 (wrap64 ((((rd_T38 l0_1 t510).f1).length : Int) - 1))).bind fun t512 => (if t512 = true then (some t510) else (some (-1)))) else (none)) else (none)))) = some r := h
 clear h
 replace H := obs H
 obtain ⟨t510, A40, H⟩ := H
 replace H : (if t510 < 0 then (some (-1)) else (if 0 ≤ t510 then (if t510 < (l0_1.length : Int) then ((impl_within.f a2 0 (wrap64 ((((rd_T38 l0_1 t510).f1).length : Int) - 1))).bind fun t512 => (if t512 = true then (some t510) else (some (-1)))) else (none)) else (none))) = some r := H
 have A4 := am A40
 clear A40
 by_cases c5 : t510 < 0
 · rw [if_pos c5] at H
   have c5b0 : decide (t510 < 0) = true := decide_eq_true c5
   clear c5
   obtain rfl := Option.some.inj H
   go_enter Try.func58, Try.ntmps58
   go_wp2_with (first | ((with_reducible refine gate_dst (N := 3) rfl ?_); (try (refine gate_guard (by rfl) ?_; dsimp only)); refine bx 31 #[.slice A0_0 l0_0.length c0_0, .slice A0_1 l0_1.length c0_1] ?_; intro gb509 hg w6 hbox hb; have BK509 := am (hbox); have GW509 := am (zn hg (zb HB)); have GE509 := am (zn hg (zb HB)); replace HB := am (below_step (zb HB) hb); clear hb hbox hg; have hcz7_0 := ce0 BK509; have hcz7_1 := ce1 BK509; have hfz7_0 := bfz BK509 0; have hfz7_1 := bfz BK509 1) | ((with_reducible refine gate_callee (f := 74) rfl ?_); refine gl Try.func74 10 #[.agg #[.slice A0_0 l0_0.length c0_0, .slice A0_1 l0_1.length c0_1], .string a1] rfl rfl rfl ?_; (with_reducible refine (impl_Pool_vol.calls _ _ l0_0 _ _ l0_1 a1 t510 _ ?side1 ?side2 ?side3 ?side4 A4.out).mono ?_); (case side1 => exact zc (Kd.C_below HR0_0.out HB.out)); (case side2 => exact HC0_0.out); (case side3 => exact zc (Kd.C_below HR0_1.out HB.out)); (case side4 => exact HC0_1.out); rintro e w8 ⟨rfl, hb⟩; refine ⟨_, rfl, ?_⟩; replace BK509 := am (blk_below (zk BK509) hb); replace HB := am (below_step (zb HB) hb); (try clear hb); (try clear hb2); (try clear hk); (try clear hi)))
   go_ret
   exact ⟨zv, (zb HB)⟩
 rw [if_neg c5] at H
 have c5b0 : decide (t510 < 0) = false := decide_eq_false c5
 clear c5
 by_cases c9 : 0 ≤ t510
 rotate_left
 · rw [if_neg c9] at H
   exact absurd H (by simp)
 rw [if_pos c9] at H
 have c9b0 : decide (0 ≤ t510) = true := decide_eq_true c9
 clear c9
 by_cases c10 : t510 < (l0_1.length : Int)
 rotate_left
 · rw [if_neg c10] at H
   exact absurd H (by simp)
 rw [if_pos c10] at H
 have c10b0 : decide (t510 < (l0_1.length : Int)) = true := decide_eq_true c10
 clear c10
 replace H := obs H
 obtain ⟨t512, A110, H⟩ := H
 replace H : (if t512 = true then (some t510) else (some (-1))) = some r := H
 have A11 := am A110
 clear A110
 by_cases c12 : t512 = true
 · subst c12
   have H1 : (some t510) = some r := by rw [if_pos rfl] at H; exact H
   clear H
   have H := H1
   clear H1
   obtain rfl := Option.some.inj H
   go_enter Try.func58, Try.ntmps58
   go_wp2_with (first | ((with_reducible refine gate_dst (N := 3) rfl ?_); (try (refine gate_guard (by rfl) ?_; dsimp only)); refine bx 31 #[.slice A0_0 l0_0.length c0_0, .slice A0_1 l0_1.length c0_1] ?_; intro gb509 hg w13 hbox hb; have BK509 := am (hbox); have GW509 := am (zn hg (zb HB)); have GE509 := am (zn hg (zb HB)); replace HB := am (below_step (zb HB) hb); clear hb hbox hg; have hcz14_0 := ce0 BK509; have hcz14_1 := ce1 BK509; have hfz14_0 := bfz BK509 0; have hfz14_1 := bfz BK509 1) | ((with_reducible refine gate_callee (f := 74) rfl ?_); refine gl Try.func74 10 #[.agg #[.slice A0_0 l0_0.length c0_0, .slice A0_1 l0_1.length c0_1], .string a1] rfl rfl rfl ?_; (with_reducible refine (impl_Pool_vol.calls _ _ l0_0 _ _ l0_1 a1 t510 _ ?side1 ?side2 ?side3 ?side4 A4.out).mono ?_); (case side1 => exact zc (Kd.C_below HR0_0.out HB.out)); (case side2 => exact HC0_0.out); (case side3 => exact zc (Kd.C_below HR0_1.out HB.out)); (case side4 => exact HC0_1.out); rintro e w15 ⟨rfl, hb⟩; refine ⟨_, rfl, ?_⟩; replace BK509 := am (blk_below (zk BK509) hb); replace HB := am (below_step (zb HB) hb); (try clear hb); (try clear hb2); (try clear hk); (try clear hi); have hcz16_0 := ce0 BK509; have hcz16_1 := ce1 BK509; have hfz16_0 := bfz BK509 0; have hfz16_1 := bfz BK509 1; have p511 : 0 ≤ (t510 : Int) := of_decide_eq_true zl; have q511 : t510 < (l0_1.length : Int) := of_decide_eq_true zl; obtain ⟨ad511, A511_1, c511_1, e511, hx511_0, hx511_1, hl511_1, hi511_1⟩ := at_T38 HR0_1.out t510 p511 q511; cases e511; replace hx511_0 := hcx HB hx511_0; replace hx511_1 := hcx HB hx511_1; have HR511_1 := am hi511_1; have HC511_1 := am hl511_1; clear hi511_1 hl511_1; replace p511 := eq_true p511; replace q511 := eq_true q511) | (go_at_call 53; (with_reducible refine (impl_within.calls a2 0 (wrap64 ((((rd_T38 l0_1 t510).f1).length : Int) - 1)) true _ A11.out).mono ?_); rintro e w' ⟨rfl, ⟨nd, rfl⟩⟩))
   go_ret
   exact ⟨zv, (zb HB)⟩
 replace c12 := Bool.eq_false_iff.mpr c12
 subst c12
 have H1 : (some (-1)) = some r := by rw [if_neg (show ¬ (false = true) by decide)] at H; exact H
 clear H
 have H := H1
 clear H1
 obtain rfl := Option.some.inj H
 go_enter Try.func58, Try.ntmps58
 go_wp2_with (first | ((with_reducible refine gate_dst (N := 3) rfl ?_); (try (refine gate_guard (by rfl) ?_; dsimp only)); refine bx 31 #[.slice A0_0 l0_0.length c0_0, .slice A0_1 l0_1.length c0_1] ?_; intro gb509 hg w17 hbox hb; have BK509 := am (hbox); have GW509 := am (zn hg (zb HB)); have GE509 := am (zn hg (zb HB)); replace HB := am (below_step (zb HB) hb); clear hb hbox hg; have hcz18_0 := ce0 BK509; have hcz18_1 := ce1 BK509; have hfz18_0 := bfz BK509 0; have hfz18_1 := bfz BK509 1) | ((with_reducible refine gate_callee (f := 74) rfl ?_); refine gl Try.func74 10 #[.agg #[.slice A0_0 l0_0.length c0_0, .slice A0_1 l0_1.length c0_1], .string a1] rfl rfl rfl ?_; (with_reducible refine (impl_Pool_vol.calls _ _ l0_0 _ _ l0_1 a1 t510 _ ?side1 ?side2 ?side3 ?side4 A4.out).mono ?_); (case side1 => exact zc (Kd.C_below HR0_0.out HB.out)); (case side2 => exact HC0_0.out); (case side3 => exact zc (Kd.C_below HR0_1.out HB.out)); (case side4 => exact HC0_1.out); rintro e w19 ⟨rfl, hb⟩; refine ⟨_, rfl, ?_⟩; replace BK509 := am (blk_below (zk BK509) hb); replace HB := am (below_step (zb HB) hb); (try clear hb); (try clear hb2); (try clear hk); (try clear hi); have hcz20_0 := ce0 BK509; have hcz20_1 := ce1 BK509; have hfz20_0 := bfz BK509 0; have hfz20_1 := bfz BK509 1; have p511 : 0 ≤ (t510 : Int) := of_decide_eq_true zl; have q511 : t510 < (l0_1.length : Int) := of_decide_eq_true zl; obtain ⟨ad511, A511_1, c511_1, e511, hx511_0, hx511_1, hl511_1, hi511_1⟩ := at_T38 HR0_1.out t510 p511 q511; cases e511; replace hx511_0 := hcx HB hx511_0; replace hx511_1 := hcx HB hx511_1; have HR511_1 := am hi511_1; have HC511_1 := am hl511_1; clear hi511_1 hl511_1; replace p511 := eq_true p511; replace q511 := eq_true q511) | (go_at_call 53; (with_reducible refine (impl_within.calls a2 0 (wrap64 ((((rd_T38 l0_1 t510).f1).length : Int) - 1)) false _ A11.out).mono ?_); rintro e w' ⟨rfl, ⟨nd, rfl⟩⟩))
 go_ret
 exact ⟨zv, (zb HB)⟩
end Go.Proofs.Ytooamacekmjpaaa.PFnPoolOnce
