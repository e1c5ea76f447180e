/- The walk: each function that the law comes to as a plain Lean function, and a proof that the Go code answers so. Written by this session's program over the kit's printer. -/
import Derived.Test.YtooamacekmjpaaaZ
import Derived.Test.YtooamacekmjpaaaQFnPoolUses0
import Derived.Test.YtooamacekmjpaaaQFnPoolUses7
import Derived.Test.YtooamacekmjpaaaQFnPoolUses16
namespace Go.Proofs.Ytooamacekmjpaaa.PFnPoolUses
open Go.RowKit Go.Proofs.YtooamacekmjpaaaW.PrintWords Go.Proofs.YtooamacekmjpaaaW.PrintLast Go.Proofs.YtooamacekmjpaaaW.PrintMore
attribute [local go_sem] max2_int min2_int max_two min_two max_three min_three max_four min_four   -- for this text's walks alone
set_option linter.unusedVariables false
set_option linter.unusedSimpArgs false
/-! ### spec_DrawPoolOk: function 32 -/
def spec_DrawPoolOk.f (k : Nat) (l0 : List Int) : Option ((List (S55)) × (List (S38))) := (spec_l6Open.f l0).bind fun bt492 => ((spec_l71Pool.f k bt492.1 bt492.2).bind fun bt495 => ((spec_l6Rd_pick.f k bt492.1 bt495.2.2 5).bind fun bt503 => (if bt503.1 = 0 then (if (bt495.2.1.length : Int) > 0 then (if 0 < (bt495.2.1.length : Int) then ((spec_l6Rd_pick.f k bt492.1 bt503.2 9).bind fun bt506 => (if 0 < (((rd_T38 bt495.2.1 0).f1).length : Int) then (some (bt495.1, (bt495.2.1.set (0 : Int).toNat (⟨(rd_T38 bt495.2.1 0).f0, (((rd_T38 bt495.2.1 0).f1).set (0 : Int).toNat bt506.1)⟩ : S38)))) else (none))) else (none)) else (some (bt495.1, bt495.2.1))) else (some (bt495.1, bt495.2.1)))))
theorem spec_DrawPoolOk.mono : ∀ a0 k, LeO (spec_DrawPoolOk.f k a0) (spec_DrawPoolOk.f (k + 1) a0) := by
 intro a0 k
 unfold spec_DrawPoolOk.f
 exact mo2 @spec_l6Rd_pick.mono @spec_l71Pool.mono
def spec_DrawPoolOk.T4 : Bool × List (List Nat × List Nat) := (true, [([], []), ([0], [0]), ([1], [1]), ([2], [2]), ([3], [3]), ([], []), ([5], [5]), ([4, 0, 1, 2, 3, 4, 5, 6], [4]), ([7, 6, 6, 0, 1, 2, 3, 4, 5, 6], [6, 7])])
def spec_DrawPoolOk.B4 : List Nat := [0, 1, 3, 7, 15, 0, 32, 127, 255]
theorem spec_DrawPoolOk.tab4 : rtab .any (opsOf Try.f32 4) = spec_DrawPoolOk.T4 := by kernel_rfl
theorem spec_DrawPoolOk.bits4 : waitsOk spec_DrawPoolOk.T4.2 spec_DrawPoolOk.B4 = true := by kernel_rfl
set_option maxHeartbeats 8000000 in
set_option maxRecDepth 100000 in
theorem spec_DrawPoolOk.calls (k : Nat) (A0 : Option Addr) (c0 : Nat) (l0 : List Int) (r1 : List (S55)) (r2 : List (S38)) (w : World) (hr0 : Kd.C (Kd.int .u8) w A0 l0.length l0) (hc0 : l0.length ≤ c0) (h : spec_DrawPoolOk.f k l0 = some (r1, r2)) :
 Calls Try.prog 32 #[.slice A0 l0.length c0] w fun e w' => ∃ v0_ v1_ : Value, e = .returned (.agg #[v0_, v1_]) ∧ Kd.R k55 55 w' w.heap.size (fun _ => True) v0_ r1 ∧ Kd.S k38 38 w' w.heap.size (fun _ => True) v1_ r2 ∧ Below w.heap.size w w' := by
 have hu31 := Try.underlying31
 have HR0 := am hr0
 have HC0 := am hc0
 clear hr0 hc0
 have HB := am (Below.refl w.heap.size w)
 have H : ((spec_l6Open.f l0).bind fun bt492 => ((spec_l71Pool.f k bt492.1 bt492.2).bind fun bt495 => ((spec_l6Rd_pick.f k bt492.1 bt495.2.2 5).bind fun bt503 => (if bt503.1 = 0 then (if (bt495.2.1.length : Int) > 0 then (if 0 < (bt495.2.1.length : Int) then ((spec_l6Rd_pick.f k bt492.1 bt503.2 9).bind fun bt506 => (if 0 < (((rd_T38 bt495.2.1 0).f1).length : Int) then (some (bt495.1, (bt495.2.1.set (0 : Int).toNat (⟨(rd_T38 bt495.2.1 0).f0, (((rd_T38 bt495.2.1 0).f1).set (0 : Int).toNat bt506.1)⟩ : S38)))) else (none))) else (none)) else (some (bt495.1, bt495.2.1))) else (some (bt495.1, bt495.2.1)))))) = some (r1, r2) := h
 clear h
 replace H := obs H
 obtain ⟨⟨t492, t493⟩, A20, H⟩ := H
 replace H : ((spec_l71Pool.f k t492 t493).bind fun bt495 => ((spec_l6Rd_pick.f k t492 bt495.2.2 5).bind fun bt503 => (if bt503.1 = 0 then (if (bt495.2.1.length : Int) > 0 then (if 0 < (bt495.2.1.length : Int) then ((spec_l6Rd_pick.f k t492 bt503.2 9).bind fun bt506 => (if 0 < (((rd_T38 bt495.2.1 0).f1).length : Int) then (some (bt495.1, (bt495.2.1.set (0 : Int).toNat (⟨(rd_T38 bt495.2.1 0).f0, (((rd_T38 bt495.2.1 0).f1).set (0 : Int).toNat bt506.1)⟩ : S38)))) else (none))) else (none)) else (some (bt495.1, bt495.2.1))) else (some (bt495.1, bt495.2.1))))) = some (r1, r2) := H
 have A2 := am A20
 clear A20
 replace H := obs H
 obtain ⟨⟨t495, t498, t501⟩, A30, H⟩ := H
 replace H : ((spec_l6Rd_pick.f k t492 t501 5).bind fun bt503 => (if bt503.1 = 0 then (if (t498.length : Int) > 0 then (if 0 < (t498.length : Int) then ((spec_l6Rd_pick.f k t492 bt503.2 9).bind fun bt506 => (if 0 < (((rd_T38 t498 0).f1).length : Int) then (some (t495, (t498.set (0 : Int).toNat (⟨(rd_T38 t498 0).f0, (((rd_T38 t498 0).f1).set (0 : Int).toNat bt506.1)⟩ : S38)))) else (none))) else (none)) else (some (t495, t498))) else (some (t495, t498)))) = some (r1, r2) := H
 have A3 := am A30
 clear A30
 replace H := obs H
 obtain ⟨⟨t503, t504⟩, A40, H⟩ := H
 replace H : (if t503 = 0 then (if (t498.length : Int) > 0 then (if 0 < (t498.length : Int) then ((spec_l6Rd_pick.f k t492 t504 9).bind fun bt506 => (if 0 < (((rd_T38 t498 0).f1).length : Int) then (some (t495, (t498.set (0 : Int).toNat (⟨(rd_T38 t498 0).f0, (((rd_T38 t498 0).f1).set (0 : Int).toNat bt506.1)⟩ : S38)))) else (none))) else (none)) else (some (t495, t498))) else (some (t495, t498))) = some (r1, r2) := H
 have A4 := am A40
 clear A40
 by_cases c5 : t503 = 0
 rotate_left
 · rw [if_neg c5] at H
   have c5b0 : (t503 == 0) = false := beq_eq_false_iff_ne.mpr c5
   have c5b1 : (t503 != 0) = true := bne_iff_ne.mpr c5
   simp only [Option.some.injEq, Prod.mk.injEq] at H
   obtain ⟨rfl, rfl⟩ := H
   go_enter Try.func32, Try.ntmps32
   go_wp2_with (first | ((with_reducible refine gate_dst (N := 2) rfl ?_); (try (refine gate_guard (by rfl) ?_; dsimp only)); refine bx 31 #[.slice none 0 0, .slice none 0 0] ?_; intro gb491 hg w43 hbox hb; have BK491 := am (hbox); have GW491 := am (zn hg (zb HB)); have GE491 := am (zn hg (zb HB)); replace HB := am (below_step (zb HB) hb); clear hb hbox hg) | ((with_reducible refine gate_callee (f := 49) rfl ?_); refine gl Try.func49 6 #[.slice A0 l0.length c0] rfl rfl rfl ?_; (with_reducible refine (spec_l6Open.calls _ _ l0 t492 t493 w _ ?side1 ?side2 ?side3 A2.out).mono ?_); (case side1 => exact zb HB); (case side2 => exact HR0.out); (case side3 => exact HC0.out); rintro e w44 ⟨g494, rfl, hi, hb, hb2⟩; refine ⟨_, rfl, ?_⟩; replace HB := am (hb); have HI494 := am (hi); have NB494_491 := am (IsS93.ne_blk hi (blk_below (zk BK491) hb2) (by decide)); have NB491_494 := am (Ne.symm (IsS93.ne_blk hi (blk_below (zk BK491) hb2) (by decide))); replace BK491 := am (blk_below (zk BK491) hb2); (try clear hb); (try clear hb2); (try clear hk); (try clear hi)) | ((with_reducible refine gate_callee (f := 50) rfl ?_); refine gl Try.func50 8 #[.pointer (some ⟨g494, 0, none⟩)] rfl rfl rfl ?_; (with_reducible refine (spec_l71Pool.calls k g494 t492 t493 t495 t498 t501 w _ ?side1 ?side2 A3.out).mono ?_); (case side1 => exact zi HI494); (case side2 => exact zb HB); rintro e w45 ⟨v496, v499, rfl, ho0, ho1, hi, hb, hk⟩; refine ⟨_, rfl, ?_⟩; replace BK491 := am (KeepBut.blk hk (zk BK491) NB491_494.out (by simp)); have HO497 := am (Kd.R_lower ho0 (below_size (zb HB))); have HO500 := am (Kd.S_lower ho1 (below_size (zb HB))); replace HB := am (hb); replace HI494 := am (hi); (try clear hb); (try clear hb2); (try clear hk); (try clear hi); (try clear ho0); (try clear ho1)) | ((with_reducible refine gate_dst (N := 4) rfl ?_); (try (refine gate_guard (by rfl) ?_; dsimp only)); refine bx 31 #[.slice none 0 0, .slice none 0 0] ?_; intro gb502 hg w46 hbox hb; replace HO497 := am (Kd.R_below (zr HO497) hb); replace HO500 := am (Kd.S_below (zs HO500) hb); have BK502 := am (hbox); have GW502 := am (zn hg (zb HB)); have GE502 := am (zn hg (zb HB)); replace HB := am (below_step (zb HB) hb); have NB491_502 := am (zx hg (zk BK491)); have NB502_491 := am (zy hg (zk BK491)); replace BK491 := am (blk_below (zk BK491) hb); have NB494_502 := am (ix hg (zi HI494)); have NB502_494 := am (iy hg (zi HI494)); replace HI494 := am (IsS93.below (zi HI494) hb); clear hb hbox hg; obtain ⟨Ao47, co47, eo47⟩ := Kd.R_slice HO497.out; subst eo47; have hnb48 := NB502_491.out; have hnc48 := NB491_502.out; have hnb49 := NB502_494.out; have hnc49 := NB494_502.out; have hcz50_0 := ce0 BK502; have hcz50_1 := ce1 BK502; have hfz50_0 := bfz BK502 0; have hfz50_1 := bfz BK502 1; obtain ⟨Ao51, co51, eo51⟩ := Kd.S_slice HO500.out; subst eo51) | ((with_reducible refine gate_callee (f := 51) rfl ?_); refine gl Try.func51 10 #[.pointer (some ⟨g494, 0, none⟩), .int .i64 5] rfl rfl rfl ?_; (with_reducible refine (spec_l6Rd_pick.calls k g494 t492 t501 5 t503 t504 w _ ?side1 ?side2 A4.out).mono ?_); (case side1 => exact zi HI494); (case side2 => exact zb HB); rintro e w52 ⟨rfl, hi, hb, hk⟩; refine ⟨_, rfl, ?_⟩; replace BK491 := am (KeepBut.blk hk (zk BK491) NB491_494.out (by simp)); replace HO497 := am (Kd.R_mono (Kd.R_keep (IsS93.apart (zi HI494) (rf HO497 BK502) (by decide)) hk (fun _ h => h.2)) (fun _ h => h.1)); replace HO500 := am (Kd.S_mono (Kd.S_keep (IsS93.apartS (zi HI494) (sf HO500 BK502) (by decide)) hk (fun _ h => h.2)) (fun _ h => h.1)); replace BK502 := am (KeepBut.blk hk (g' := gb502) (o := .cells #[.slice Ao47 t495.length co47, .slice Ao51 t498.length co51] 31 (0, 0)) (zp BK502) NB502_494.out (by simp)); replace HB := am (hb); replace HI494 := am (hi); (try clear hb); (try clear hb2); (try clear hk); (try clear hi); have hcz53_0 := ce0 BK502; have hcz53_1 := ce1 BK502; have hfz53_0 := bfz BK502 0; have hfz53_1 := bfz BK502 1; have hnb54 := NB491_494.out; have hnc54 := NB494_491.out; have hcz55_0 := ce0 BK491; have hcz55_1 := ce1 BK491; have hfz55_0 := bfz BK491 0; have hfz55_1 := bfz BK491 1))
   refine bodyPost_ret (results_cell_row rfl _ _ gb491 31 #[.slice Ao47 t495.length co47, .slice Ao51 t498.length co51] (0, 0) _ rfl (zp BK491) Try.underlying31 rfl (by kernel_rfl)) rfl ?_
   exact ⟨_, _, zw, by (with_reducible repeat (first | apply Kd.R_alloc | apply Kd.R_drewN | apply Kd.R_drew)); exact Kd.R_mono (Kd.R_far (p := ⟨gb491, 1, none⟩) (Kd.R_far (p := ⟨gb491, 0, none⟩) (Kd.R_types HO497.out BK491.out (by decide)) (fun _ hk => hk.2) (.slice Ao47 t495.length co47)) (fun _ hk => hk.2) (.slice Ao51 t498.length co51)) (fun _ hk => trivial), by (with_reducible repeat (first | apply Kd.S_alloc | apply Kd.S_drewN | apply Kd.S_drew)); exact Kd.S_mono (Kd.S_far (p := ⟨gb491, 1, none⟩) (Kd.S_far (p := ⟨gb491, 0, none⟩) (Kd.S_types HO500.out BK491.out (by decide)) (fun _ hk => hk.2) (.slice Ao47 t495.length co47)) (fun _ hk => hk.2) (.slice Ao51 t498.length co51)) (fun _ hk => trivial), (zb HB)⟩
 rw [if_pos c5] at H
 have c5b0 : (t503 == 0) = true := beq_iff_eq.mpr c5
 have c5b1 : (t503 != 0) = false := bne_eq_false_iff_eq.mpr c5
 clear c5
 by_cases c6 : (t498.length : Int) > 0
 rotate_left
 · rw [if_neg c6] at H
   have c6b0 : decide (0 < (t498.length : Int)) = false := decide_eq_false c6
   have c6b1 : decide (0 < t498.length) = false := decide_eq_false (by omega)
   clear c6
   simp only [Option.some.injEq, Prod.mk.injEq] at H
   obtain ⟨rfl, rfl⟩ := H
   go_enter Try.func32, Try.ntmps32
   go_wp2_with (first | ((with_reducible refine gate_dst (N := 2) rfl ?_); (try (refine gate_guard (by rfl) ?_; dsimp only)); refine bx 31 #[.slice none 0 0, .slice none 0 0] ?_; intro gb491 hg w30 hbox hb; have BK491 := am (hbox); have GW491 := am (zn hg (zb HB)); have GE491 := am (zn hg (zb HB)); replace HB := am (below_step (zb HB) hb); clear hb hbox hg) | ((with_reducible refine gate_callee (f := 49) rfl ?_); refine gl Try.func49 6 #[.slice A0 l0.length c0] rfl rfl rfl ?_; (with_reducible refine (spec_l6Open.calls _ _ l0 t492 t493 w _ ?side1 ?side2 ?side3 A2.out).mono ?_); (case side1 => exact zb HB); (case side2 => exact HR0.out); (case side3 => exact HC0.out); rintro e w31 ⟨g494, rfl, hi, hb, hb2⟩; refine ⟨_, rfl, ?_⟩; replace HB := am (hb); have HI494 := am (hi); have NB494_491 := am (IsS93.ne_blk hi (blk_below (zk BK491) hb2) (by decide)); have NB491_494 := am (Ne.symm (IsS93.ne_blk hi (blk_below (zk BK491) hb2) (by decide))); replace BK491 := am (blk_below (zk BK491) hb2); (try clear hb); (try clear hb2); (try clear hk); (try clear hi)) | ((with_reducible refine gate_callee (f := 50) rfl ?_); refine gl Try.func50 8 #[.pointer (some ⟨g494, 0, none⟩)] rfl rfl rfl ?_; (with_reducible refine (spec_l71Pool.calls k g494 t492 t493 t495 t498 t501 w _ ?side1 ?side2 A3.out).mono ?_); (case side1 => exact zi HI494); (case side2 => exact zb HB); rintro e w32 ⟨v496, v499, rfl, ho0, ho1, hi, hb, hk⟩; refine ⟨_, rfl, ?_⟩; replace BK491 := am (KeepBut.blk hk (zk BK491) NB491_494.out (by simp)); have HO497 := am (Kd.R_lower ho0 (below_size (zb HB))); have HO500 := am (Kd.S_lower ho1 (below_size (zb HB))); replace HB := am (hb); replace HI494 := am (hi); (try clear hb); (try clear hb2); (try clear hk); (try clear hi); (try clear ho0); (try clear ho1)) | ((with_reducible refine gate_dst (N := 4) rfl ?_); (try (refine gate_guard (by rfl) ?_; dsimp only)); refine bx 31 #[.slice none 0 0, .slice none 0 0] ?_; intro gb502 hg w33 hbox hb; replace HO497 := am (Kd.R_below (zr HO497) hb); replace HO500 := am (Kd.S_below (zs HO500) hb); have BK502 := am (hbox); have GW502 := am (zn hg (zb HB)); have GE502 := am (zn hg (zb HB)); replace HB := am (below_step (zb HB) hb); have NB491_502 := am (zx hg (zk BK491)); have NB502_491 := am (zy hg (zk BK491)); replace BK491 := am (blk_below (zk BK491) hb); have NB494_502 := am (ix hg (zi HI494)); have NB502_494 := am (iy hg (zi HI494)); replace HI494 := am (IsS93.below (zi HI494) hb); clear hb hbox hg; obtain ⟨Ao34, co34, eo34⟩ := Kd.R_slice HO497.out; subst eo34; have hnb35 := NB502_491.out; have hnc35 := NB491_502.out; have hnb36 := NB502_494.out; have hnc36 := NB494_502.out; have hcz37_0 := ce0 BK502; have hcz37_1 := ce1 BK502; have hfz37_0 := bfz BK502 0; have hfz37_1 := bfz BK502 1; obtain ⟨Ao38, co38, eo38⟩ := Kd.S_slice HO500.out; subst eo38) | ((with_reducible refine gate_callee (f := 51) rfl ?_); refine gl Try.func51 10 #[.pointer (some ⟨g494, 0, none⟩), .int .i64 5] rfl rfl rfl ?_; (with_reducible refine (spec_l6Rd_pick.calls k g494 t492 t501 5 t503 t504 w _ ?side1 ?side2 A4.out).mono ?_); (case side1 => exact zi HI494); (case side2 => exact zb HB); rintro e w39 ⟨rfl, hi, hb, hk⟩; refine ⟨_, rfl, ?_⟩; replace BK491 := am (KeepBut.blk hk (zk BK491) NB491_494.out (by simp)); replace HO497 := am (Kd.R_mono (Kd.R_keep (IsS93.apart (zi HI494) (rf HO497 BK502) (by decide)) hk (fun _ h => h.2)) (fun _ h => h.1)); replace HO500 := am (Kd.S_mono (Kd.S_keep (IsS93.apartS (zi HI494) (sf HO500 BK502) (by decide)) hk (fun _ h => h.2)) (fun _ h => h.1)); replace BK502 := am (KeepBut.blk hk (g' := gb502) (o := .cells #[.slice Ao34 t495.length co34, .slice Ao38 t498.length co38] 31 (0, 0)) (zp BK502) NB502_494.out (by simp)); replace HB := am (hb); replace HI494 := am (hi); (try clear hb); (try clear hb2); (try clear hk); (try clear hi); have hcz40_0 := ce0 BK502; have hcz40_1 := ce1 BK502; have hfz40_0 := bfz BK502 0; have hfz40_1 := bfz BK502 1; have hnb41 := NB491_494.out; have hnc41 := NB494_491.out; have hcz42_0 := ce0 BK491; have hcz42_1 := ce1 BK491; have hfz42_0 := bfz BK491 0; have hfz42_1 := bfz BK491 1))
   refine bodyPost_ret (results_cell_row rfl _ _ gb491 31 #[.slice Ao34 t495.length co34, .slice Ao38 t498.length co38] (0, 0) _ rfl (zp BK491) Try.underlying31 rfl (by kernel_rfl)) rfl ?_
   exact ⟨_, _, zw, by (with_reducible repeat (first | apply Kd.R_alloc | apply Kd.R_drewN | apply Kd.R_drew)); exact Kd.R_mono (Kd.R_far (p := ⟨gb491, 1, none⟩) (Kd.R_far (p := ⟨gb491, 0, none⟩) (Kd.R_types HO497.out BK491.out (by decide)) (fun _ hk => hk.2) (.slice Ao34 t495.length co34)) (fun _ hk => hk.2) (.slice Ao38 t498.length co38)) (fun _ hk => trivial), by (with_reducible repeat (first | apply Kd.S_alloc | apply Kd.S_drewN | apply Kd.S_drew)); exact Kd.S_mono (Kd.S_far (p := ⟨gb491, 1, none⟩) (Kd.S_far (p := ⟨gb491, 0, none⟩) (Kd.S_types HO500.out BK491.out (by decide)) (fun _ hk => hk.2) (.slice Ao34 t495.length co34)) (fun _ hk => hk.2) (.slice Ao38 t498.length co38)) (fun _ hk => trivial), (zb HB)⟩
 rw [if_pos c6] at H
 have c6b0 : decide (0 < (t498.length : Int)) = true := decide_eq_true c6
 have c6b1 : decide (0 < t498.length) = true := decide_eq_true (by omega)
 clear c6
 by_cases c7 : 0 < (t498.length : Int)
 rotate_left
 · rw [if_neg c7] at H
   exact absurd H (by simp)
 rw [if_pos c7] at H
 have c7b0 : decide (0 < (t498.length : Int)) = true := decide_eq_true c7
 have c7b1 : decide (0 < t498.length) = true := decide_eq_true (by omega)
 clear c7
 replace H := obs H
 obtain ⟨⟨t506, t507⟩, A80, H⟩ := H
 replace H : (if 0 < (((rd_T38 t498 0).f1).length : Int) then (some (t495, (t498.set (0 : Int).toNat (⟨(rd_T38 t498 0).f0, (((rd_T38 t498 0).f1).set (0 : Int).toNat t506)⟩ : S38)))) else (none)) = some (r1, r2) := H
 have A8 := am A80
 clear A80
 by_cases c9 : 0 < (((rd_T38 t498 0).f1).length : Int)
 rotate_left
 · rw [if_neg c9] at H
   exact absurd H (by simp)
 rw [if_pos c9] at H
 have c9b0 : decide (0 < (((rd_T38 t498 0).f1).length : Int)) = true := decide_eq_true c9
 have c9b1 : decide (0 < ((rd_T38 t498 0).f1).length) = true := decide_eq_true (by omega)
 clear c9
 obtain ⟨y508, hy508⟩ : ∃ y_ : List Int, y_ = (((rd_T38 t498 0).f1).set (0 : Int).toNat t506) := ⟨_, rfl⟩
 replace H : (some (t495, (t498.set (0 : Int).toNat (⟨(rd_T38 t498 0).f0, y508⟩ : S38)))) = some (r1, r2) := hY hy508 H
 have Ny508 := am hy508
 clear hy508
 obtain ⟨y510, hy510⟩ : ∃ y_ : List (S38), y_ = (t498.set (0 : Int).toNat (⟨(rd_T38 t498 0).f0, y508⟩ : S38)) := ⟨_, rfl⟩
 replace H : (some (t495, y510)) = some (r1, r2) := hY hy510 H
 have Ny510 := am hy510
 clear hy510
 simp only [Option.some.injEq, Prod.mk.injEq] at H
 obtain ⟨rfl, rfl⟩ := H
 go_enter Try.func32, Try.ntmps32
 try go_wp2_with (first | ((with_reducible refine gate_dst (N := 2) rfl ?_); (try (refine gate_guard (by rfl) ?_; dsimp only)); refine bx 31 #[.slice none 0 0, .slice none 0 0] ?_; intro gb491 hg w11 hbox hb; have BK491 := am (hbox); have GW491 := am (zn hg (zb HB)); have GE491 := am (zn hg (zb HB)); replace HB := am (below_step (zb HB) hb); clear hb hbox hg) | ((with_reducible refine gate_callee (f := 49) rfl ?_); refine gl Try.func49 6 #[.slice A0 l0.length c0] rfl rfl rfl ?_; (with_reducible refine (spec_l6Open.calls _ _ l0 t492 t493 w _ ?side1 ?side2 ?side3 A2.out).mono ?_); (case side1 => exact zb HB); (case side2 => exact HR0.out); (case side3 => exact HC0.out); rintro e w12 ⟨g494, rfl, hi, hb, hb2⟩; refine ⟨_, rfl, ?_⟩; replace HB := am (hb); have HI494 := am (hi); have NB494_491 := am (IsS93.ne_blk hi (blk_below (zk BK491) hb2) (by decide)); have NB491_494 := am (Ne.symm (IsS93.ne_blk hi (blk_below (zk BK491) hb2) (by decide))); replace BK491 := am (blk_below (zk BK491) hb2); (try clear hb); (try clear hb2); (try clear hk); (try clear hi)) | ((with_reducible refine gate_callee (f := 50) rfl ?_); refine gl Try.func50 8 #[.pointer (some ⟨g494, 0, none⟩)] rfl rfl rfl ?_; (with_reducible refine (spec_l71Pool.calls k g494 t492 t493 t495 t498 t501 w _ ?side1 ?side2 A3.out).mono ?_); (case side1 => exact zi HI494); (case side2 => exact zb HB); rintro e w13 ⟨v496, v499, rfl, ho0, ho1, hi, hb, hk⟩; refine ⟨_, rfl, ?_⟩; replace BK491 := am (KeepBut.blk hk (zk BK491) NB491_494.out (by simp)); have HO497 := am (Kd.R_lower ho0 (below_size (zb HB))); have HO500 := am (Kd.S_lower ho1 (below_size (zb HB))); replace HB := am (hb); replace HI494 := am (hi); (try clear hb); (try clear hb2); (try clear hk); (try clear hi); (try clear ho0); (try clear ho1)) | ((with_reducible refine gate_dst (N := 4) rfl ?_); (try (refine gate_guard (by rfl) ?_; dsimp only)); refine bx 31 #[.slice none 0 0, .slice none 0 0] ?_; intro gb502 hg w14 hbox hb; replace HO497 := am (Kd.R_below (zr HO497) hb); replace HO500 := am (Kd.S_below (zs HO500) hb); have BK502 := am (hbox); have GW502 := am (zn hg (zb HB)); have GE502 := am (zn hg (zb HB)); replace HB := am (below_step (zb HB) hb); have NB491_502 := am (zx hg (zk BK491)); have NB502_491 := am (zy hg (zk BK491)); replace BK491 := am (blk_below (zk BK491) hb); have NB494_502 := am (ix hg (zi HI494)); have NB502_494 := am (iy hg (zi HI494)); replace HI494 := am (IsS93.below (zi HI494) hb); clear hb hbox hg; obtain ⟨Ao15, co15, eo15⟩ := Kd.R_slice HO497.out; subst eo15; have hnb16 := NB502_491.out; have hnc16 := NB491_502.out; have hnb17 := NB502_494.out; have hnc17 := NB494_502.out; have hcz18_0 := ce0 BK502; have hcz18_1 := ce1 BK502; have hfz18_0 := bfz BK502 0; have hfz18_1 := bfz BK502 1; obtain ⟨Ao19, co19, eo19⟩ := Kd.S_slice HO500.out; subst eo19) | ((with_reducible refine gate_callee (f := 51) rfl ?_); refine gl Try.func51 10 #[.pointer (some ⟨g494, 0, none⟩), .int .i64 5] rfl rfl rfl ?_; (with_reducible refine (spec_l6Rd_pick.calls k g494 t492 t501 5 t503 t504 w _ ?side1 ?side2 A4.out).mono ?_); (case side1 => exact zi HI494); (case side2 => exact zb HB); rintro e w20 ⟨rfl, hi, hb, hk⟩; refine ⟨_, rfl, ?_⟩; replace BK491 := am (KeepBut.blk hk (zk BK491) NB491_494.out (by simp)); replace HO497 := am (Kd.R_mono (Kd.R_keep (IsS93.apart (zi HI494) (rf HO497 BK502) (by decide)) hk (fun _ h => h.2)) (fun _ h => h.1)); replace HO500 := am (Kd.S_mono (Kd.S_keep (IsS93.apartS (zi HI494) (sf HO500 BK502) (by decide)) hk (fun _ h => h.2)) (fun _ h => h.1)); replace BK502 := am (KeepBut.blk hk (g' := gb502) (o := .cells #[.slice Ao15 t495.length co15, .slice Ao19 t498.length co19] 31 (0, 0)) (zp BK502) NB502_494.out (by simp)); replace HB := am (hb); replace HI494 := am (hi); (try clear hb); (try clear hb2); (try clear hk); (try clear hi); have hcz21_0 := ce0 BK502; have hcz21_1 := ce1 BK502; have hfz21_0 := bfz BK502 0; have hfz21_1 := bfz BK502 1))
 replace HO497 := am (Kd.R_drew HO497.out)
 replace HO500 := am (Kd.S_drew HO500.out)
 replace BK491 := am (blk_drew BK491.out)
 replace BK502 := am (blk_drew BK502.out)
 replace HI494 := am (IsS93.drew HI494.out)
 replace HB := am (below_drew1 HB.out)
 have p505 : 0 ≤ (0 : Int) := (by omega)
 have q505 : 0 < (t498.length : Int) := of_decide_eq_true zl
 obtain ⟨ad505, A505_1, c505_1, e505, hx505_0, hx505_1, hl505_1, hi505_1⟩ := at_T38 (Kd.S_reads' HO500.out).2.2 0 p505 q505
 cases e505
 obtain ⟨ce505, hce505, hMe505, hcc505⟩ := Kd.S_get HO500.out z38 0 p505 (by first | exact q505 | exact of_decide_eq_true zl | (have e_ := (Kd.S_reads' HO500.out).1; omega))
 obtain ⟨ve505_1, rfl, ge505_1⟩ := k38_openM hMe505
 have hv505_1 := hcc505 1 _ rfl
 rw [add_field _ _ 1 (by omega)] at hv505_1
 replace hv505_1 := Option.some.inj (hv505_1.symm.trans hx505_1)
 rw [hv505_1] at ge505_1
 have HL505_1 := am (show Kd.R (Kd.int .i64) 3 _ _ _ _ ((rd_T38 t498 0).f1) from ge505_1)
 clear hv505_1 ge505_1
 have HX505_1 := am hx505_1
 clear hcc505 hce505
 have qi505 : (0 < t498.length) = True := eq_true (by omega)
 (try rw [show ((0 : Int)).toNat = 0 from rfl] at hx505_0)
 (try rw [show 0 * 2 = 0 from rfl] at hx505_0)
 (try rw [Addr.add_zero'] at hx505_0)
 (try rw [show ((0 : Int)).toNat = 0 from rfl] at hx505_1)
 (try rw [show 0 * 2 = 0 from rfl] at hx505_1)
 (try rw [Addr.add_zero'] at hx505_1)
 have HR505_1 := am hi505_1
 have HC505_1 := am hl505_1
 clear hi505_1 hl505_1
 replace p505 := eq_true p505
 replace q505 := eq_true q505
 refine start_ (n := 9) (S := fun w' => w'.cell? ⟨gb502, 0, none⟩ = some (.slice Ao15 t495.length co15) ∧ w'.cell? ⟨gb502, 1, none⟩ = some (.slice (some ad505) t498.length co19) ∧ w'.cell? ad505 = some (.string ((rd_T38 t498 0).f0)) ∧ w'.cell? ⟨ad505.block, ad505.off + 1, none⟩ = some (.slice A505_1 ((rd_T38 t498 0).f1).length c505_1)) (ds := [8]) (bs 9 0) (by kernel_rfl) rfl rfl ⟨ce0 BK502, ce1 BK502, hx505_0, hx505_1⟩ (fun hHeld => ?_); refine with_tabW spec_DrawPoolOk.tab4 spec_DrawPoolOk.bits4 (fun HT_ HW_ => ?_)
 generalize w20.drew = w22 at HO497 HO500 BK491 BK502 HI494 HB HL505_1 HR505_1 HX505_1 hx505_0 hx505_1 hHeld ⊢
 refine pu 0 18 9 1 rfl rfl ?_
 refine pu 5 23 9 33 rfl rfl ?_
 refine ta4 1 19 9 35 rfl rfl hHeld ?_
 refine pu 2 20 9 39 rfl rfl ?_
 refine pu 3 21 9 47 rfl rfl ?_
 refine ta4 4 22 9 63 rfl rfl hHeld ?_
 refine oz 6 9 127 rfl rfl (fun K hK => ?_)
 refine gs Try.func51 #[.pointer (some ⟨g494, 0, none⟩), .int .i64 9] rfl rfl ?_
 with_reducible refine (spec_l6Rd_pick.calls k g494 t492 t504 9 t506 t507 w _ ?side1 ?side2 A8.out).mono ?_
 (case side1 => exact zi HI494)
 (case side2 => exact zb HB)
 rintro e w23 ⟨rfl, hi, hb, hk⟩
 have HS2_ := keep_cell hk (hHeld.2.2.1) (by first | (rw [add_block]; exact Kd.own_blk (IsS93.own_neS HI494.out HO500.out (by decide))) | (show (Addr.add _ _).block ≠ _; rw [add_block]; exact Kd.own_blk (IsS93.own_neS HI494.out HO500.out (by decide))) | exact Kd.own_blk (IsS93.own_neS HI494.out HO500.out (by decide)) | (dsimp only; exact Kd.own_blk (IsS93.own_neS HI494.out HO500.out (by decide))))
 have HS3_ := keep_cell hk (hHeld.2.2.2) (by first | (rw [add_block]; exact Kd.own_blk (IsS93.own_neS HI494.out HO500.out (by decide))) | (show (Addr.add _ _).block ≠ _; rw [add_block]; exact Kd.own_blk (IsS93.own_neS HI494.out HO500.out (by decide))) | exact Kd.own_blk (IsS93.own_neS HI494.out HO500.out (by decide)) | (dsimp only; exact Kd.own_blk (IsS93.own_neS HI494.out HO500.out (by decide))))
 refine ⟨_, rfl, ?_⟩
 replace BK491 := am (KeepBut.blk hk (zk BK491) NB491_494.out (by simp))
 replace HO497 := am (Kd.R_mono (Kd.R_keep (IsS93.apart (zi HI494) (zr HO497) (by decide)) hk (fun _ h => h.2)) (fun _ h => h.1))
 replace BK502 := am (KeepBut.blk hk (zk BK502) NB502_494.out (by simp))
 replace HL505_1 := am (Kd.R_mono (Kd.R_keep (IsS93.apart (zi HI494) (zr HL505_1) (by decide)) hk (fun _ h => h.2)) (fun _ h => h.1))
 replace HX505_1 := am (keep_cell hk HX505_1.out (by first | (rw [add_block]; exact Kd.own_blk (IsS93.own_neS HI494.out HO500.out (by decide))) | (show (Addr.add _ _).block ≠ _; rw [add_block]; exact Kd.own_blk (IsS93.own_neS HI494.out HO500.out (by decide))) | exact Kd.own_blk (IsS93.own_neS HI494.out HO500.out (by decide)) | (dsimp only; exact Kd.own_blk (IsS93.own_neS HI494.out HO500.out (by decide)))))
 replace HO500 := am (Kd.S_mono (Kd.S_keep (IsS93.apartS (zi HI494) (zs HO500) (by decide)) hk (fun _ h => h.2)) (fun _ h => h.1))
 replace HB := am (hb)
 replace HI494 := am (hi)
 (try clear hb)
 (try clear hb2)
 (try clear hk)
 (try clear hi)
 have p10 : 0 ≤ (0 : Int) := (by omega)
 have q10 : (0 : Int) < ((((rd_T38 t498 0).f1).length : Int) : Int) := of_decide_eq_true zl
 have qi10 : (0 < ((rd_T38 t498 0).f1).length) = True := eq_true (by omega)
 obtain ⟨go10, co10, eo10, gb10, gl10, cl10, HG10⟩ := Kd.R_form HL505_1.out (by omega)
 (first | cases eo10 | (injection eo10 with ea_ en_ ec_; (first | subst ea_ | (injection ea_ with ea_; subst ea_)); subst ec_; clear en_))
 have GB10 := am gb10
 have GG10 := am HG10
 clear gb10 gl10 HG10
 obtain ⟨hx10_0, hf10_0⟩ := Kd.R_celln 0 HL505_1.out (0 : Int) p10 q10
 (try rw [show ((0 : Int)).toNat = 0 from rfl] at hx10_0)
 (try simp only [Nat.reduceMul, Nat.zero_mul, Nat.zero_add, Nat.reduceAdd] at hx10_0)
 (try rw [show ((0 : Int)).toNat = 0 from rfl] at hf10_0)
 (try simp only [Nat.reduceMul, Nat.zero_mul, Nat.zero_add, Nat.reduceAdd] at hf10_0)
 replace p10 := eq_true p10
 replace q10 := eq_true q10
 have hq24 : (0 : Int) < (t498.length : Int) := (by have h_ : (0 : Int) < ((t498.length : Int) : Int) := of_decide_eq_true zl; first | exact h_ | (have e_ := (Kd.S_reads' HO500.out).1; omega) | simpa only [List.length_set, List.length_set] using h_)
 obtain ⟨oki24, ce24, hcl24, hM24, hcc24, hok24, hbk24⟩ := Kd.S_borrow HO500.out z38 (0 : Int) (by omega) hq24
 obtain ⟨ve24_1, rfl, ge24_1⟩ := k38_openM hM24
 have hv24 := hcc24 1 _ rfl
 rw [add_field _ _ 1 (by omega)] at hv24
 replace hv24 := Option.some.inj (hv24.symm.trans HX505_1.out)
 subst hv24
 clear hcc24 hcl24
 replace ge24_1 := (show Kd.R (Kd.int .i64) 3 _ _ _ _ ((rd_T38 t498 0).f1) from ge24_1)
 have HP24 := Kd.R_putg ge24_1 (0 : Int) t506
 have HN494_go10 := am (show g494 ≠ go10 from by have h_ := IsS93.own_ne HI494.out HL505_1.out (by decide); intro e_; exact h_ (by rw [e_]; rfl))
 rw [← Ny508.out] at HP24
 have HS24 := hbk24 HP24.2 (fun k_ e_ => by injection e_ with e_; subst e_; exact ge24_1.1 _ rfl) (x' := (⟨(rd_T38 t498 0).f0, y508⟩ : S38)) (k38_mkM _ _ _ (⟨(rd_T38 t498 0).f0, y508⟩ : S38) HP24.1)
 rw [← Ny510.out] at HS24
 have HQ24 := am HS24
 clear HP24 HS24 hbk24 hok24
 refine hK.out _ _ ⟨ce0 BK502, ce1 BK502, HS2_, HS3_⟩ (fun hHeld => ?_)
 clear hK K
 refine norm_ (a' := ?_) ?_ ?_
 rotate_left
 · show Act.put _ (some 24) _ = _
   simp only [Act.put, List.setIfInBounds_toArray, List.set_cons_zero, List.set_cons_succ, i64_w, i32_w]
   rfl
 refine pu 7 25 9 255 rfl rfl ?_
 refine la 8 9 511 rfl rfl (fun K hK => ?_)
 refine skip_ (w1 := ?_) (by rfl) rfl ?_ ?_
 rotate_left
 · go_simp
   rfl
 refine hK.out _ _ ?_
 clear hK K
 refine done_ (done_of HT_.out (by kernel_rfl)) ?_
 have n0_ : Aside0 (Kd.R k55 55 (w23.setCell ⟨go10, 0, none⟩ (.int .i64 t506)) w.heap.size (fun _ => True) (.slice Ao15 t495.length co15) t495) := ⟨by (with_reducible repeat (first | apply Kd.R_alloc | apply Kd.R_drewN | apply Kd.R_drew)); exact Kd.R_mono (Kd.R_far (p := ⟨go10, 0, none⟩) (Kd.R_types HO497.out GG10.out (by decide)) (fun _ hk => hk.2) (.int .i64 t506)) (fun _ hk => trivial)⟩
 have n1_ : Aside0 (Kd.S k38 38 (w23.setCell ⟨go10, 0, none⟩ (.int .i64 t506)) w.heap.size (fun _ => True) (.slice (some ad505) t498.length co19) y510) := ⟨zs HQ24⟩
 have n2_ : Aside0 ((w23.setCell ⟨go10, 0, none⟩ (.int .i64 t506)).heap[gb491]? = some (.cells #[.slice none 0 0, .slice none 0 0] 31 (0, 0))) := ⟨by (with_reducible repeat (first | refine blk_drewN ?_ _ | refine blk_drew ?_ | refine blk_alloc ?_ _)); refine blk_far ?_ (by have h_ := Kd.R_ne HL505_1.out BK491.out (by decide); intro e_; exact h_ (by rw [e_]; rfl)) _; (with_reducible repeat (first | refine blk_drewN ?_ _ | refine blk_drew ?_ | refine blk_alloc ?_ _)); exact BK491.out⟩
 have n3_ : Aside0 ((w23.setCell ⟨go10, 0, none⟩ (.int .i64 t506)).heap[gb502]? = some (.cells #[.slice Ao15 t495.length co15, .slice (some ad505) t498.length co19] 31 (0, 0))) := ⟨by (with_reducible repeat (first | refine blk_drewN ?_ _ | refine blk_drew ?_ | refine blk_alloc ?_ _)); refine blk_far ?_ (by have h_ := Kd.R_ne HL505_1.out BK502.out (by decide); intro e_; exact h_ (by rw [e_]; rfl)) _; (with_reducible repeat (first | refine blk_drewN ?_ _ | refine blk_drew ?_ | refine blk_alloc ?_ _)); exact BK502.out⟩
 have n4_ : Aside0 (IsS93 w (w23.setCell ⟨go10, 0, none⟩ (.int .i64 t506)) g494 t492 t507) := ⟨zi HI494⟩
 have n5_ : Aside0 (Below w.heap.size w (w23.setCell ⟨go10, 0, none⟩ (.int .i64 t506))) := ⟨zb HB⟩
 (try clear HO497)
 (try clear HO500)
 (try clear BK491)
 (try clear BK502)
 (try clear HI494)
 (try clear HB)
 generalize (w23.setCell ⟨go10, 0, none⟩ (.int .i64 t506)) = w26 at n0_ n1_ n2_ n3_ n4_ n5_ ⊢
 have HO497 := n0_
 have HO500 := n1_
 have BK491 := n2_
 have BK502 := n3_
 have HI494 := n4_
 have HB := n5_
 clear n0_ n1_ n2_ n3_ n4_ n5_
 have hcz27_0 := ce0 BK502
 have hcz27_1 := ce1 BK502
 have hfz27_0 := bfz BK502 0
 have hfz27_1 := bfz BK502 1
 have hnb28 := NB491_494.out
 have hnc28 := NB494_491.out
 have hcz29_0 := ce0 BK491
 have hcz29_1 := ce1 BK491
 have hfz29_0 := bfz BK491 0
 have hfz29_1 := bfz BK491 1
 try go_wp2
 refine bodyPost_ret (results_cell_row rfl _ _ gb491 31 #[.slice Ao15 t495.length co15, .slice (some ad505) t498.length co19] (0, 0) _ rfl (zp BK491) Try.underlying31 rfl (by kernel_rfl)) rfl ?_
 exact ⟨_, _, zw, by (with_reducible repeat (first | apply Kd.R_alloc | apply Kd.R_drewN | apply Kd.R_drew)); exact Kd.R_mono (Kd.R_far (p := ⟨gb491, 1, none⟩) (Kd.R_far (p := ⟨gb491, 0, none⟩) (Kd.R_types HO497.out BK491.out (by decide)) (fun _ hk => hk.2) (.slice Ao15 t495.length co15)) (fun _ hk => hk.2) (.slice (some ad505) t498.length co19)) (fun _ hk => trivial), by (with_reducible repeat (first | apply Kd.S_alloc | apply Kd.S_drewN | apply Kd.S_drew)); exact Kd.S_mono (Kd.S_far (p := ⟨gb491, 1, none⟩) (Kd.S_far (p := ⟨gb491, 0, none⟩) (Kd.S_types HO500.out BK491.out (by decide)) (fun _ hk => hk.2) (.slice Ao15 t495.length co15)) (fun _ hk => hk.2) (.slice (some ad505) t498.length co19)) (fun _ hk => trivial), (zb HB)⟩
end Go.Proofs.Ytooamacekmjpaaa.PFnPoolUses
