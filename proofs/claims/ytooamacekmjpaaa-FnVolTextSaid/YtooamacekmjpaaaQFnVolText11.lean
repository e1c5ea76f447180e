/- The walk: each function that the law comes to as a plain Lean function, and a proof that the Go code answers so. Written by this session's program over the kit's printer. -/
import Derived.Test.YtooamacekmjpaaaZ
import Derived.Test.YtooamacekmjpaaaQFnVolText0
import Derived.Test.YtooamacekmjpaaaQFnVolText1
import Derived.Test.YtooamacekmjpaaaQFnVolText9
import Derived.Test.YtooamacekmjpaaaQFnVolText10
namespace Go.Proofs.Ytooamacekmjpaaa.PFnVolText
open Go.RowKit Go.Proofs.YtooamacekmjpaaaW.PrintWords Go.Proofs.YtooamacekmjpaaaW.PrintLast Go.Proofs.YtooamacekmjpaaaW.PrintMore
attribute [local go_sem] max2_int min2_int max_two min_two max_three min_three max_four min_four   -- for this text's walks alone
set_option linter.unusedVariables false
set_option linter.unusedSimpArgs false
/-! ### spec_DrawVolText: function 29 -/
def spec_DrawVolText.j0 : Nat → List Int → Bool → List Int → Int → List (S55) → List (S38) → Option (ByteArray × List Int × (List (S55)))
 | 0, _, _, _, _, _, _ => none
 | k + 1, x0, x18, x480000, x480001, x488000, x488001 => if x18 = true then ((spec_l6Rd_pick.f k x480000 x480001 (x488001.length : Int)).bind fun bt490 => (if 0 ≤ bt490.1 then (if bt490.1 < (x488001.length : Int) then (some ((rd_T38 x488001 bt490.1).f0, (rd_T38 x488001 bt490.1).f1, x488000)) else (none)) else (none))) else ((spec_DrawVolOk.f k x0).bind fun bt493 => (some (bt493.1, bt493.2, x488000)))
def spec_DrawVolText.f (k : Nat) (l0 : List Int) : Option (ByteArray × List Int × (List (S55))) := (spec_l6Open.f l0).bind fun bt477 => ((spec_l71Pool.f k bt477.1 bt477.2).bind fun bt480 => (if (bt480.2.1.length : Int) > 0 then ((spec_l6Rd_pick.f k bt477.1 bt480.2.2 6).bind fun bt488 => (spec_DrawVolText.j0 k l0 (decide (bt488.1 > 0)) bt477.1 bt488.2 bt480.1 bt480.2.1)) else (spec_DrawVolText.j0 k l0 false bt477.1 bt480.2.2 bt480.1 bt480.2.1)))
theorem spec_DrawVolText.mono_l : ∀ k, (∀ y0 y1 y2 y3 y4 y5, LeO (spec_DrawVolText.j0 k y0 y1 y2 y3 y4 y5) (spec_DrawVolText.j0 (k + 1) y0 y1 y2 y3 y4 y5))
 | 0 => fun _ _ _ _ _ _ r h => by simp [spec_DrawVolText.j0] at h
 | k + 1 => by
  have ih0 := spec_DrawVolText.mono_l k
  intro y0 y1 y2 y3 y4 y5
  unfold spec_DrawVolText.j0
  exact mo4 ih0 @spec_DrawVolOk.mono @spec_l6Rd_pick.mono @spec_l71Pool.mono
theorem spec_DrawVolText.mono : ∀ a0 k, LeO (spec_DrawVolText.f k a0) (spec_DrawVolText.f (k + 1) a0) := by
 intro a0 k
 have ih0 := spec_DrawVolText.mono_l k
 unfold spec_DrawVolText.f
 exact mo4 ih0 @spec_DrawVolOk.mono @spec_l6Rd_pick.mono @spec_l71Pool.mono
def spec_DrawVolText.T4 : Bool × List (List Nat × List Nat) := (true, [([], []), ([0], [0]), ([], []), ([], []), ([3], [3]), ([4], [4]), ([2, 5], [2, 5]), ([1, 6], [1, 6]), ([7], [7]), ([], []), ([9], [9]), ([8, 6, 0, 1, 2, 3, 4, 5, 6, 7, 8], [8]), ([10, 11, 0, 1, 2, 3, 4, 5, 6, 7, 8, 9, 10, 11], [10])])
def spec_DrawVolText.B4 : List Nat := [0, 1, 0, 0, 8, 24, 60, 127, 255, 0, 512, 511, 4095]
theorem spec_DrawVolText.tab4 : rtab .any (opsOf Try.f29 4) = spec_DrawVolText.T4 := by kernel_rfl
theorem spec_DrawVolText.bits4 : waitsOk spec_DrawVolText.T4.2 spec_DrawVolText.B4 = true := by kernel_rfl
set_option maxHeartbeats 8000000 in
set_option maxRecDepth 100000 in
theorem spec_DrawVolText.calls (k : Nat) (A0 : Option Addr) (c0 : Nat) (l0 : List Int) (r1 : ByteArray) (r2 : List Int) (r3 : List (S55)) (w : World) (hr0 : Kd.C (Kd.int .u8) w A0 l0.length l0) (hc0 : l0.length ≤ c0) (h : spec_DrawVolText.f k l0 = some (r1, r2, r3)) :
 Calls Try.prog 29 #[.slice A0 l0.length c0] w fun e w' => ∃ v1_ v2_ : Value, e = .returned (.tuple #[.agg #[.string r1, v1_], v2_]) ∧ Kd.Q (Kd.int .i64) 3 w' w.heap.size (fun _ => True) v1_ r2 ∧ Kd.R k55 55 w' w.heap.size (fun _ => True) v2_ r3 ∧ Below w.heap.size w w' := by
 have hu38 := Try.underlying38
 have hu31 := Try.underlying31
 have HR0 := am hr0
 have HC0 := am hc0
 clear hr0 hc0
 have HB := am (Below.refl w.heap.size w)
 have H : ((spec_l6Open.f l0).bind fun bt477 => ((spec_l71Pool.f k bt477.1 bt477.2).bind fun bt480 => (if (bt480.2.1.length : Int) > 0 then ((spec_l6Rd_pick.f k bt477.1 bt480.2.2 6).bind fun bt488 => (spec_DrawVolText.j0 k l0 (decide (bt488.1 > 0)) bt477.1 bt488.2 bt480.1 bt480.2.1)) else (spec_DrawVolText.j0 k l0 false bt477.1 bt480.2.2 bt480.1 bt480.2.1)))) = some (r1, r2, r3) := h
 clear h
 replace H := obs H
 obtain ⟨⟨t477, t478⟩, A20, H⟩ := H
 replace H : ((spec_l71Pool.f k t477 t478).bind fun bt480 => (if (bt480.2.1.length : Int) > 0 then ((spec_l6Rd_pick.f k t477 bt480.2.2 6).bind fun bt488 => (spec_DrawVolText.j0 k l0 (decide (bt488.1 > 0)) t477 bt488.2 bt480.1 bt480.2.1)) else (spec_DrawVolText.j0 k l0 false t477 bt480.2.2 bt480.1 bt480.2.1))) = some (r1, r2, r3) := H
 have A2 := am A20
 clear A20
 replace H := obs H
 obtain ⟨⟨t480, t483, t486⟩, A30, H⟩ := H
 replace H : (if (t483.length : Int) > 0 then ((spec_l6Rd_pick.f k t477 t486 6).bind fun bt488 => (spec_DrawVolText.j0 k l0 (decide (bt488.1 > 0)) t477 bt488.2 t480 t483)) else (spec_DrawVolText.j0 k l0 false t477 t486 t480 t483)) = some (r1, r2, r3) := H
 have A3 := am A30
 clear A30
 have HC4 := am H
 clear H
 go_enter Try.func29, Try.ntmps29
 go_upto_region 3 with (first | ((with_reducible refine gate_dst (N := 2) rfl ?_); refine bx 38 #[.string (⟨#[]⟩ : ByteArray), .slice none 0 0] ?_; intro gb476 hg w5 hbox hb; have BK476 := am (hbox); have GW476 := am (zn hg (zb HB)); have GE476 := am (zn hg (zb HB)); replace HB := am (below_step (zb HB) hb); clear hb hbox hg) | ((with_reducible refine gate_callee (f := 49) rfl ?_); refine gl Try.func49 7 #[.slice A0 l0.length c0] rfl rfl rfl ?_; (with_reducible refine (spec_l6Open.calls _ _ l0 t477 t478 w _ ?side1 ?side2 ?side3 A2.out).mono ?_); (case side1 => exact zb HB); (case side2 => exact HR0.out); (case side3 => exact HC0.out); rintro e w6 ⟨g479, rfl, hi, hb, hb2⟩; refine ⟨_, rfl, ?_⟩; replace HB := am (hb); have HI479 := am (hi); have NB479_476 := am (IsS93.ne_blk hi (blk_below (zk BK476) hb2) (by decide)); have NB476_479 := am (Ne.symm (IsS93.ne_blk hi (blk_below (zk BK476) hb2) (by decide))); replace BK476 := am (blk_below (zk BK476) hb2); (try clear hb); (try clear hb2); (try clear hk); (try clear hi)) | ((with_reducible refine gate_callee (f := 50) rfl ?_); refine gl Try.func50 9 #[.pointer (some ⟨g479, 0, none⟩)] rfl rfl rfl ?_; (with_reducible refine (spec_l71Pool.calls k g479 t477 t478 t480 t483 t486 w _ ?side1 ?side2 A3.out).mono ?_); (case side1 => exact zi HI479); (case side2 => exact zb HB); rintro e w7 ⟨v481, v484, rfl, ho0, ho1, hi, hb, hk⟩; refine ⟨_, rfl, ?_⟩; have HO482 := am (Kd.R_lower ho0 (below_size (zb HB))); have HO485 := am (Kd.S_lower (Kd.S_newB ho1 (g := gb476) (o := .cells #[.string (⟨#[]⟩ : ByteArray), .slice none 0 0] 38 (0, 0)) (zk BK476)) (below_size (zb HB))); replace BK476 := am (KeepBut.blk hk (zk BK476) NB476_479.out (by simp)); replace HB := am (hb); replace HI479 := am (hi); (try clear hb); (try clear hb2); (try clear hk); (try clear hi); (try clear ho0); (try clear ho1)) | ((with_reducible refine gate_dst (N := 5) rfl ?_); refine bx 31 #[.slice none 0 0, .slice none 0 0] ?_; intro gb487 hg w8 hbox hb; replace HO482 := am (Kd.R_below (zr HO482) hb); replace HO485 := am (Kd.S_below (zs HO485) hb); have BK487 := am (hbox); have GW487 := am (zn hg (zb HB)); have GE487 := am (zn hg (zb HB)); replace HB := am (below_step (zb HB) hb); have NB476_487 := am (zx hg (zk BK476)); have NB487_476 := am (zy hg (zk BK476)); replace BK476 := am (blk_below (zk BK476) hb); have NB479_487 := am (ix hg (zi HI479)); have NB487_479 := am (iy hg (zi HI479)); replace HI479 := am (IsS93.below (zi HI479) hb); clear hb hbox hg; obtain ⟨Ao9, co9, eo9⟩ := Kd.R_slice HO482.out; subst eo9; have hnb10 := NB487_476.out; have hnc10 := NB476_487.out; have hnb11 := NB487_479.out; have hnc11 := NB479_487.out; have hcz12_0 := ce0 BK487; have hcz12_1 := ce1 BK487; have hfz12_0 := bfz BK487 0; have hfz12_1 := bfz BK487 1; obtain ⟨Ao13, co13, eo13⟩ := Kd.S_slice HO485.out; subst eo13))
 (try simp only [Act.put, List.setIfInBounds_toArray, List.set_cons_zero, List.set_cons_succ])
 go_cut [18] (fun v18 wc => ∃ (kq : Nat) (x18_3 : Bool) (x480001_3 : Int), v18 = .bool x18_3 ∧ Aside0 (spec_DrawVolText.j0 kq l0 x18_3 t477 x480001_3 t480 t483 = some (r1, r2, r3)) ∧ Aside0 (kq ≤ k) ∧ Aside0 (Kd.R k55 55 wc w.heap.size (fun _ => True) (.slice Ao9 t480.length co9) t480) ∧ Aside0 (Kd.S k38 38 wc w.heap.size (fun k_ => k_ ≠ gb476) (.slice Ao13 t483.length co13) t483) ∧ Aside0 (wc.heap[gb476]? = some (.cells #[.string (⟨#[]⟩ : ByteArray), (.slice none 0 0)] 38 (0, 0))) ∧ Aside0 (wc.heap[gb487]? = some (.cells #[(.slice Ao9 t480.length co9), (.slice Ao13 t483.length co13)] 31 (0, 0))) ∧ Aside0 (IsS93 w wc g479 t477 x480001_3) ∧ Aside0 (Below w.heap.size w wc))
 case first =>
  have H := HC4.out
  clear HC4
  by_cases c14 : (t483.length : Int) > 0
  rotate_left
  · rw [if_neg c14] at H
    have c14b0 : decide (0 < (t483.length : Int)) = false := decide_eq_false c14
    have c14b1 : decide (0 < t483.length) = false := decide_eq_false (by omega)
    clear c14
    (first | rw [c14b0] | (simp only [i64_w, i32_w]; rw [c14b0]) | skip)
    try rw [c14b1]
    have H' := am H
    clear H
    have hnb20 := NB487_476.out
    have hnc20 := NB476_487.out
    have hnb21 := NB487_479.out
    have hnc21 := NB479_487.out
    have hcz22_0 := ce0 BK487
    have hcz22_1 := ce1 BK487
    have hfz22_0 := bfz BK487 0
    have hfz22_1 := bfz BK487 1
    go_wp2
    go_meet
    case rel => exact ⟨_, (false), (t486), ze, H', ⟨by first | omega | exact Nat.le_refl _⟩, ⟨by (with_reducible repeat (first | apply Kd.R_alloc | apply Kd.R_drewN | apply Kd.R_drew)); exact Kd.R_mono (Kd.R_far (p := ⟨gb487, 1, none⟩) (Kd.R_far (p := ⟨gb487, 0, none⟩) (Kd.R_types HO482.out BK487.out (by decide)) (fun _ hk => by first | exact hk.2 | trivial) (.slice Ao9 t480.length co9)) (fun _ hk => by first | exact hk.2 | trivial) (.slice Ao13 t483.length co13)) (fun _ hk => trivial)⟩, ⟨by (with_reducible repeat (first | apply Kd.S_alloc | apply Kd.S_drewN | apply Kd.S_drew)); exact Kd.S_mono (Kd.S_far (p := ⟨gb487, 1, none⟩) (Kd.S_far (p := ⟨gb487, 0, none⟩) (Kd.S_types HO485.out BK487.out (by decide)) (fun _ hk => by first | exact hk.2 | trivial) (.slice Ao9 t480.length co9)) (fun _ hk => by first | exact hk.2 | trivial) (.slice Ao13 t483.length co13)) (fun _ hk => by first | exact hk.1.2 | trivial)⟩, ⟨zk BK476⟩, ⟨zp BK487⟩, ⟨zi HI479⟩, ⟨zb HB⟩⟩
  rw [if_pos c14] at H
  have c14b0 : decide (0 < (t483.length : Int)) = true := decide_eq_true c14
  have c14b1 : decide (0 < t483.length) = true := decide_eq_true (by omega)
  clear c14
  (first | rw [c14b0] | (simp only [i64_w, i32_w]; rw [c14b0]) | skip)
  try rw [c14b1]
  replace H := obs H
  obtain ⟨⟨t488, t489⟩, A150, H⟩ := H
  replace H : (spec_DrawVolText.j0 k l0 (decide (t488 > 0)) t477 t489 t480 t483) = some (r1, r2, r3) := H
  have A15 := am A150
  clear A150
  have H' := am H
  clear H
  have hnb16 := NB487_476.out
  have hnc16 := NB476_487.out
  have hnb17 := NB487_479.out
  have hnc17 := NB479_487.out
  have hcz18_0 := ce0 BK487
  have hcz18_1 := ce1 BK487
  have hfz18_0 := bfz BK487 0
  have hfz18_1 := bfz BK487 1
  go_wp2_with (first | (go_at_call 51; (with_reducible refine (spec_l6Rd_pick.calls k g479 t477 t486 6 t488 t489 w _ ?side1 ?side2 A15.out).mono ?_); (case side1 => exact zi HI479); (case side2 => exact zb HB); rintro e w19 ⟨rfl, hi, hb, hk⟩; replace BK476 := am (KeepBut.blk hk (zk BK476) NB476_479.out (by simp)); replace HO482 := am (Kd.R_mono (Kd.R_keep (IsS93.apart (zi HI479) (rf HO482 BK487) (by decide)) hk (fun _ h => h.2)) (fun _ h => h.1)); replace HO485 := am (Kd.S_mono (Kd.S_keep (IsS93.apartS (zi HI479) (sf HO485 BK487) (by decide)) hk (fun _ h => h.2)) (fun _ h => h.1)); replace BK487 := am (KeepBut.blk hk (g' := gb487) (o := .cells #[.slice Ao9 t480.length co9, .slice Ao13 t483.length co13] 31 (0, 0)) (zp BK487) NB487_479.out (by simp)); replace HB := am (hb); replace HI479 := am (hi); (try clear hb); (try clear hb2); (try clear hk); (try clear hi)))
  go_meet
  case rel => exact ⟨_, (decide (t488 > 0)), (t489), ze, H', ⟨by first | omega | exact Nat.le_refl _⟩, ⟨zr HO482⟩, ⟨by (with_reducible repeat (first | apply Kd.S_alloc | apply Kd.S_drewN | apply Kd.S_drew)); exact Kd.S_mono HO485.out (fun _ hk => by first | exact hk.2 | trivial)⟩, ⟨zk BK476⟩, ⟨zk BK487⟩, ⟨zi HI479⟩, ⟨zb HB⟩⟩
 clear HC4
 try clear c1
 try clear c2
 try clear p2
 try clear c4
 try clear c5
 try clear c10
 try clear c11
 try clear c14
 try clear c14b0
 try clear c14b1
 try clear c16
 try clear c17
 try clear c20
 try clear c21
 try clear hcz12_0
 try clear hcz12_1
 try clear hcz18_0
 try clear hcz18_1
 try clear hcz22_0
 try clear hcz22_1
 try clear hfz12_0
 try clear hfz12_1
 try clear hfz18_0
 try clear hfz18_1
 try clear hfz22_0
 try clear hfz22_1
 obtain ⟨kq, x18_3, x480001_3, rfl, HA, HJ3, HO_488000, HO_488001, BK476, BK487, HI479, HB⟩ := hcut
 cases kq with
 | zero => exact absurd HA.out (by simp [spec_DrawVolText.j0])
 | succ kj3 =>
  have H := HA.out
  clear HA
  simp only [spec_DrawVolText.j0] at H
  by_cases c23 : x18_3 = true
  rotate_left
  · replace c23 := Bool.eq_false_iff.mpr c23
    subst c23
    have H1 : ((spec_DrawVolOk.f kj3 l0).bind fun bt493 => (some (bt493.1, bt493.2, t480))) = some (r1, r2, r3) := by rw [if_neg (show ¬ (false = true) by decide)] at H; exact H
    clear H
    have H := H1
    clear H1
    replace H := obs H
    obtain ⟨⟨t493, t494⟩, A310, H⟩ := H
    replace H : (some (t493, t494, t480)) = some (r1, r2, r3) := H
    have A31 := am A310
    clear A310
    simp only [Option.some.injEq, Prod.mk.injEq] at H
    obtain ⟨rfl, rfl, rfl⟩ := H
    try go_wp2
    replace HO_488000 := am (Kd.R_drew HO_488000.out)
    replace HO_488001 := am (Kd.S_drew HO_488001.out)
    replace BK476 := am (blk_drew BK476.out)
    replace BK487 := am (blk_drew BK487.out)
    replace HI479 := am (IsS93.drew HI479.out)
    replace HB := am (below_drew1 HB.out)
    refine start_ (n := 6) (S := fun w' => w'.cell? ⟨gb487, 0, none⟩ = some (.slice Ao9 t480.length co9) ∧ w'.cell? ⟨gb487, 1, none⟩ = some (.slice Ao13 t483.length co13)) (ds := []) (bs 6 0) (by kernel_rfl) rfl rfl ⟨ce0 BK487, ce1 BK487⟩ (fun hHeld => ?_)
    generalize wc.drew = w32 at HO_488000 HO_488001 BK476 BK487 HI479 HB hHeld ⊢
    refine pu 0 30 6 1 rfl rfl ?_
    refine pu 2 32 6 5 rfl rfl ?_
    refine ta2 3 33 6 13 rfl rfl hHeld ?_
    refine oz 1 6 15 rfl rfl (fun K hK => ?_)
    refine gs Try.func19 #[.slice A0 l0.length c0] rfl rfl ?_
    with_reducible refine (spec_DrawVolOk.calls kj3 _ _ l0 t493 t494 _ ?side1 ?side2 A31.out).mono ?_
    (case side1 => exact zc (Kd.C_below HR0.out HB.out))
    (case side2 => exact HC0.out)
    rintro e w33 ⟨v495, rfl, ho0, hb⟩
    refine ⟨_, rfl, ?_⟩
    replace HO_488000 := am (Kd.R_below (zr HO_488000) hb)
    replace HO_488001 := am (Kd.S_elder' (zs HO_488001) (Kd.Q_base ho0) hb)
    have HO496 := am (Kd.Q_lower ho0 (below_size (zb HB)))
    replace BK476 := am (blk_below (zk BK476) hb)
    replace BK487 := am (blk_below (zk BK487) hb)
    replace HI479 := am (IsS93.below (zi HI479) hb)
    replace HB := am (below_step (zb HB) hb)
    (try clear hb)
    (try clear hb2)
    (try clear hk)
    (try clear hi)
    (try clear ho0)
    obtain ⟨Ao35, co35, eo35, _⟩ := Kd.Q_slice HO496.out
    (first | subst eo35 | (injection eo35 with f1_ f2_ f3_; have f4_ := f1_.symm; have f5_ := f3_.symm; clear f1_ f2_ f3_; subst f4_; subst f5_))
    refine hK.out _ _ ⟨ce0 BK487, ce1 BK487⟩ (fun hHeld => ?_)
    clear hK K
    refine norm_ (a' := ?_) ?_ ?_
    rotate_left
    · show Act.put _ (some 31) _ = _
      simp only [Act.put, List.setIfInBounds_toArray, List.set_cons_zero, List.set_cons_succ, i64_w, i32_w]
      rfl
    refine oz 4 6 31 rfl rfl (fun K hK => ?_)
    have hs34 := ce0 BK476
    have hfs34 := bfz BK476 0
    have hns34_1 := NB487_476.out
    have hms34_1 := NB476_487.out
    have hs36 := ce1 BK476
    have hfs36 := bfz BK476 1
    have hns36_1 := NB487_476.out
    have hms36_1 := NB476_487.out
    refine skip_ (w1 := ?_) (by rfl) rfl ?_ ?_
    rotate_left
    · go_simp
      rfl
    refine hK.out _ _ ⟨((cell_far (p := ⟨gb476, _, none⟩) NB487_476.out _).trans (((cell_far (p := ⟨gb476, _, none⟩) NB487_476.out _).trans (hHeld.1)))), ((cell_far (p := ⟨gb476, _, none⟩) NB487_476.out _).trans (((cell_far (p := ⟨gb476, _, none⟩) NB487_476.out _).trans (hHeld.2))))⟩ (fun hHeld => ?_)
    clear hK K
    refine pu 5 3 6 63 rfl rfl ?_
    refine done_ (by kernel_rfl) ?_
    try go_wp2
    refine bodyPost_ret (results_ct rfl _ _ gb476 38 #[.string t493, .slice Ao35 t494.length co35] (0, 0) _ rfl (zp BK476) Try.underlying38 rfl (by kernel_rfl)) rfl ?_
    exact ⟨_, _, zw, by (with_reducible repeat (first | apply Kd.Q_alloc | apply Kd.Q_drewN | apply Kd.Q_drew)); exact Kd.Q_mono (Kd.Q_far (p := ⟨gb476, 1, none⟩) (Kd.Q_far (p := ⟨gb476, 0, none⟩) (Kd.Q_types HO496.out BK476.out (by decide)) (fun _ hk => hk.2) (.string t493)) (fun _ hk => hk.2) (.slice Ao35 t494.length co35)) (fun _ hk => trivial), by (with_reducible repeat (first | apply Kd.R_alloc | apply Kd.R_drewN | apply Kd.R_drew)); exact Kd.R_mono (Kd.R_far (p := ⟨gb476, 1, none⟩) (Kd.R_far (p := ⟨gb476, 0, none⟩) (Kd.R_types HO_488000.out BK476.out (by decide)) (fun _ hk => hk.2) (.string t493)) (fun _ hk => hk.2) (.slice Ao35 t494.length co35)) (fun _ hk => trivial), (zb HB)⟩
  subst c23
  have H1 : ((spec_l6Rd_pick.f kj3 t477 x480001_3 (t483.length : Int)).bind fun bt490 => (if 0 ≤ bt490.1 then (if bt490.1 < (t483.length : Int) then (some ((rd_T38 t483 bt490.1).f0, (rd_T38 t483 bt490.1).f1, t480)) else (none)) else (none))) = some (r1, r2, r3) := by rw [if_pos rfl] at H; exact H
  clear H
  have H := H1
  clear H1
  replace H := obs H
  obtain ⟨⟨t490, t491⟩, A240, H⟩ := H
  replace H : (if 0 ≤ t490 then (if t490 < (t483.length : Int) then (some ((rd_T38 t483 t490).f0, (rd_T38 t483 t490).f1, t480)) else (none)) else (none)) = some (r1, r2, r3) := H
  have A24 := am A240
  clear A240
  by_cases c25 : 0 ≤ t490
  rotate_left
  · rw [if_neg c25] at H
    exact absurd H (by simp)
  rw [if_pos c25] at H
  have c25b0 : decide (0 ≤ t490) = true := decide_eq_true c25
  clear c25
  by_cases c26 : t490 < (t483.length : Int)
  rotate_left
  · rw [if_neg c26] at H
    exact absurd H (by simp)
  rw [if_pos c26] at H
  have c26b0 : decide (t490 < (t483.length : Int)) = true := decide_eq_true c26
  clear c26
  simp only [Option.some.injEq, Prod.mk.injEq] at H
  obtain ⟨rfl, rfl, rfl⟩ := H
  try go_wp2
  replace HO_488000 := am (Kd.R_drew HO_488000.out)
  replace HO_488001 := am (Kd.S_drew HO_488001.out)
  replace BK476 := am (blk_drew BK476.out)
  replace BK487 := am (blk_drew BK487.out)
  replace HI479 := am (IsS93.drew HI479.out)
  replace HB := am (below_drew1 HB.out)
  have p492 : 0 ≤ (t490 : Int) := of_decide_eq_true zl
  have q492 : t490 < (t483.length : Int) := of_decide_eq_true zl
  obtain ⟨ad492, A492_1, c492_1, e492, hx492_0, hx492_1, hl492_1, hi492_1⟩ := at_T38 (Kd.S_reads' HO_488001.out).2.2 t490 p492 q492
  cases e492
  obtain ⟨ce492, hce492, hMe492, hcc492⟩ := Kd.S_get HO_488001.out z38 t490 p492 (by first | exact q492 | exact of_decide_eq_true zl | (have e_ := (Kd.S_reads' HO_488001.out).1; omega))
  obtain ⟨ve492_1, rfl, ge492_1⟩ := k38_openM hMe492
  have hv492_1 := hcc492 1 _ rfl
  rw [add_field _ _ 1 (by omega)] at hv492_1
  replace hv492_1 := Option.some.inj (hv492_1.symm.trans hx492_1)
  rw [hv492_1] at ge492_1
  have HL492_1 := am (show Kd.R (Kd.int .i64) 3 _ _ _ _ ((rd_T38 t483 t490).f1) from ge492_1)
  clear hv492_1 ge492_1 hcc492 hce492
  have HR492_1 := am hi492_1
  have HC492_1 := am hl492_1
  clear hi492_1 hl492_1
  replace p492 := eq_true p492
  replace q492 := eq_true q492
  refine start_ (n := 13) (S := fun w' => w'.cell? ⟨gb487, 0, none⟩ = some (.slice Ao9 t480.length co9) ∧ w'.cell? ⟨gb487, 1, none⟩ = some (.slice (some ad492) t483.length co13) ∧ w'.cell? (ad492.add ((t490).toNat * 2)) = some (.string ((rd_T38 t483 t490).f0)) ∧ w'.cell? ⟨(ad492.add ((t490).toNat * 2)).block, (ad492.add ((t490).toNat * 2)).off + 1, none⟩ = some (.slice A492_1 ((rd_T38 t483 t490).f1).length c492_1)) (ds := []) (bs 13 0) (by kernel_rfl) rfl rfl ⟨ce0 BK487, ce1 BK487, hx492_0, hx492_1⟩ (fun hHeld => ?_); refine with_tabW spec_DrawVolText.tab4 spec_DrawVolText.bits4 (fun HT_ HW_ => ?_)
  generalize wc.drew = w27 at HO_488000 HO_488001 BK476 BK487 HI479 HB HL492_1 HR492_1 hx492_0 hx492_1 hHeld ⊢
  refine pu 0 19 13 1 rfl rfl ?_
  refine pu 2 21 13 5 rfl rfl ?_
  refine pu 3 22 13 13 rfl rfl ?_
  refine pu 9 28 13 525 rfl rfl ?_
  refine ta4 1 20 13 527 rfl rfl hHeld ?_
  refine ta4 4 23 13 543 rfl rfl hHeld ?_
  refine pu 5 24 13 575 rfl rfl ?_
  refine ta4 10 29 13 1599 rfl rfl hHeld ?_
  refine oz 6 13 1663 rfl rfl (fun K hK => ?_)
  refine gs Try.func51 #[.pointer (some ⟨g479, 0, none⟩), .int .i64 (t483.length : Int)] rfl rfl ?_
  with_reducible refine (spec_l6Rd_pick.calls kj3 g479 t477 x480001_3 (t483.length : Int) t490 t491 w _ ?side1 ?side2 A24.out).mono ?_
  (case side1 => exact zi HI479)
  (case side2 => exact zb HB)
  rintro e w28 ⟨rfl, hi, hb, hk⟩
  replace HL492_1 := am (Kd.R_mono (Kd.R_keep (IsS93.apart (zi HI479) (zr HL492_1) (by decide)) hk (fun _ h => h.2)) (fun _ h => h.1))
  have HS2_ := keep_cell hk (hHeld.2.2.1) (by first | (rw [add_block]; exact Kd.own_blk (IsS93.own_neS HI479.out HO_488001.out (by decide))) | (show (Addr.add _ _).block ≠ _; rw [add_block]; exact Kd.own_blk (IsS93.own_neS HI479.out HO_488001.out (by decide))) | exact Kd.own_blk (IsS93.own_neS HI479.out HO_488001.out (by decide)))
  have HS3_ := keep_cell hk (hHeld.2.2.2) (by first | (rw [add_block]; exact Kd.own_blk (IsS93.own_neS HI479.out HO_488001.out (by decide))) | (show (Addr.add _ _).block ≠ _; rw [add_block]; exact Kd.own_blk (IsS93.own_neS HI479.out HO_488001.out (by decide))) | exact Kd.own_blk (IsS93.own_neS HI479.out HO_488001.out (by decide)))
  refine ⟨_, rfl, ?_⟩
  replace HO_488000 := am (Kd.R_mono (Kd.R_keep (IsS93.apart (zi HI479) (zr HO_488000) (by decide)) hk (fun _ h => h.2)) (fun _ h => h.1))
  replace HO_488001 := am (Kd.S_mono (Kd.S_keep (IsS93.apartS (zi HI479) (zs HO_488001) (by decide)) hk (fun _ h => h.2)) (fun _ h => h.1))
  replace BK476 := am (KeepBut.blk hk (zk BK476) NB476_479.out (by simp))
  replace BK487 := am (KeepBut.blk hk (zk BK487) NB487_479.out (by simp))
  replace HB := am (hb)
  replace HI479 := am (hi)
  (try clear hb)
  (try clear hb2)
  (try clear hk)
  (try clear hi)
  refine hK.out _ _ ⟨ce0 BK487, ce1 BK487, HS2_, HS3_⟩ (fun hHeld => ?_)
  clear hK K
  refine norm_ (a' := ?_) ?_ ?_
  rotate_left
  · show Act.put _ (some 25) _ = _
    simp only [Act.put, List.setIfInBounds_toArray, List.set_cons_zero, List.set_cons_succ, i64_w, i32_w]
    rfl
  refine pu 7 26 13 1791 rfl rfl ?_
  refine ta4 8 27 13 2047 rfl rfl hHeld ?_
  refine oz 11 13 4095 rfl rfl (fun K hK => ?_)
  have hs29 := ce0 BK476
  have hfs29 := bfz BK476 0
  have hns29_1 := NB487_476.out
  have hms29_1 := NB476_487.out
  have hs30 := ce1 BK476
  have hfs30 := bfz BK476 1
  have hns30_1 := NB487_476.out
  have hms30_1 := NB476_487.out
  refine skip_ (w1 := ?_) (by rfl) rfl ?_ ?_
  rotate_left
  · go_simp
    rfl
  refine hK.out _ _ ⟨((cell_far (p := ⟨gb476, _, none⟩) NB487_476.out _).trans (((cell_far (p := ⟨gb476, _, none⟩) NB487_476.out _).trans (hHeld.1)))), ((cell_far (p := ⟨gb476, _, none⟩) NB487_476.out _).trans (((cell_far (p := ⟨gb476, _, none⟩) NB487_476.out _).trans (hHeld.2.1)))), ((cell_far (p := ⟨gb476, _, none⟩) (by first | exact Kd.own_blk (Kd.S_away HO_488001.out (fun _ hk => hk)) | (rw [add_block]; exact Kd.own_blk (Kd.S_away HO_488001.out (fun _ hk => hk))) | (show (Addr.add _ _).block ≠ _; rw [add_block]; exact Kd.own_blk (Kd.S_away HO_488001.out (fun _ hk => hk))) | (dsimp only; exact Kd.own_blk (Kd.S_away HO_488001.out (fun _ hk => hk)))) _).trans (((cell_far (p := ⟨gb476, _, none⟩) (by first | exact Kd.own_blk (Kd.S_away HO_488001.out (fun _ hk => hk)) | (rw [add_block]; exact Kd.own_blk (Kd.S_away HO_488001.out (fun _ hk => hk))) | (show (Addr.add _ _).block ≠ _; rw [add_block]; exact Kd.own_blk (Kd.S_away HO_488001.out (fun _ hk => hk))) | (dsimp only; exact Kd.own_blk (Kd.S_away HO_488001.out (fun _ hk => hk)))) _).trans (hHeld.2.2.1)))), ((cell_far (p := ⟨gb476, _, none⟩) (by first | exact Kd.own_blk (Kd.S_away HO_488001.out (fun _ hk => hk)) | (rw [add_block]; exact Kd.own_blk (Kd.S_away HO_488001.out (fun _ hk => hk))) | (show (Addr.add _ _).block ≠ _; rw [add_block]; exact Kd.own_blk (Kd.S_away HO_488001.out (fun _ hk => hk))) | (dsimp only; exact Kd.own_blk (Kd.S_away HO_488001.out (fun _ hk => hk)))) _).trans (((cell_far (p := ⟨gb476, _, none⟩) (by first | exact Kd.own_blk (Kd.S_away HO_488001.out (fun _ hk => hk)) | (rw [add_block]; exact Kd.own_blk (Kd.S_away HO_488001.out (fun _ hk => hk))) | (show (Addr.add _ _).block ≠ _; rw [add_block]; exact Kd.own_blk (Kd.S_away HO_488001.out (fun _ hk => hk))) | (dsimp only; exact Kd.own_blk (Kd.S_away HO_488001.out (fun _ hk => hk)))) _).trans (hHeld.2.2.2))))⟩ (fun hHeld => ?_)
  clear hK K
  refine pu 12 3 13 8191 rfl rfl ?_
  refine done_ (done_of HT_.out (by kernel_rfl)) ?_
  try go_wp2
  refine bodyPost_ret (results_ct rfl _ _ gb476 38 #[.string ((rd_T38 t483 t490).f0), .slice A492_1 ((rd_T38 t483 t490).f1).length c492_1] (0, 0) _ rfl (zp BK476) Try.underlying38 rfl (by kernel_rfl)) rfl ?_
  exact ⟨_, _, zw, Kd.Q_of_R (by (with_reducible repeat (first | apply Kd.R_alloc | apply Kd.R_drewN | apply Kd.R_drew)); exact Kd.R_mono (Kd.R_far (p := ⟨gb476, 1, none⟩) (Kd.R_far (p := ⟨gb476, 0, none⟩) (Kd.R_types HL492_1.out BK476.out (by decide)) (fun _ hk => hk.2) (.string ((rd_T38 t483 t490).f0))) (fun _ hk => hk.2) (.slice A492_1 ((rd_T38 t483 t490).f1).length c492_1)) (fun _ hk => trivial)), by (with_reducible repeat (first | apply Kd.R_alloc | apply Kd.R_drewN | apply Kd.R_drew)); exact Kd.R_mono (Kd.R_far (p := ⟨gb476, 1, none⟩) (Kd.R_far (p := ⟨gb476, 0, none⟩) (Kd.R_types HO_488000.out BK476.out (by decide)) (fun _ hk => hk.2) (.string ((rd_T38 t483 t490).f0))) (fun _ hk => hk.2) (.slice A492_1 ((rd_T38 t483 t490).f1).length c492_1)) (fun _ hk => trivial), (zb HB)⟩
/-! ### impl_within: function 53 -/
def impl_within.f (a0 : Int) (a1 : Int) (a2 : Int) : Option (Bool) := if a0 ≥ a1 then (some (decide (a0 ≤ a2))) else (some false)
set_option maxHeartbeats 8000000 in
set_option maxRecDepth 100000 in
theorem impl_within.calls (a0 : Int) (a1 : Int) (a2 : Int) (r : Bool) (w : World) (h : impl_within.f a0 a1 a2 = some r) :
 Calls Try.prog 53 #[.int .i64 a0, .int .i64 a1, .int .i64 a2] w fun e w' => e = .returned (.bool r) ∧ Drawn0 w w' := by
 have H : (if a0 ≥ a1 then (some (decide (a0 ≤ a2))) else (some false)) = some r := h
 clear h
 by_cases c4 : a0 ≥ a1
 · rw [if_pos c4] at H
   have c4b0 : decide (a1 ≤ a0) = true := decide_eq_true c4
   clear c4
   obtain rfl := Option.some.inj H
   go_enter Try.func53, Try.ntmps53
   go_wp2
   go_ret
   exact ⟨by first | rfl | (simp; done) | (simp [*]; done), by repeat (first | exact Drawn0.refl _ | apply Drawn0.step)⟩
 rw [if_neg c4] at H
 have c4b0 : decide (a1 ≤ a0) = false := decide_eq_false c4
 clear c4
 obtain rfl := Option.some.inj H
 go_enter Try.func53, Try.ntmps53
 go_wp2
 go_ret
 exact ⟨by first | rfl | (simp; done) | (simp [*]; done), by repeat (first | exact Drawn0.refl _ | apply Drawn0.step)⟩
/-! ### impl_isName: function 54 -/
def impl_isName.f (a0 : ByteArray) : Option (Bool) := if a0.toList = ([65] : List UInt8) then (some true) else (if a0.toList = ([66] : List UInt8) then (some true) else (if a0.toList = ([67] : List UInt8) then (some true) else (some (a0.toList == ([68] : List UInt8)))))
set_option maxHeartbeats 8000000 in
set_option maxRecDepth 100000 in
theorem impl_isName.calls (a0 : ByteArray) (r : Bool) (w : World) (h : impl_isName.f a0 = some r) :
 Calls Try.prog 54 #[.string a0] w fun e w' => e = .returned (.bool r) ∧ Drawn0 w w' := by
 have H : (if a0.toList = ([65] : List UInt8) then (some true) else (if a0.toList = ([66] : List UInt8) then (some true) else (if a0.toList = ([67] : List UInt8) then (some true) else (some (a0.toList == ([68] : List UInt8)))))) = some r := h
 clear h
 by_cases c2 : a0.toList = ([65] : List UInt8)
 · rw [if_pos c2] at H
   have c2b0 : (a0.toList == ([65] : List UInt8)) = true := beq_iff_eq.mpr c2
   have c2b1 : (a0.toList != ([65] : List UInt8)) = false := bne_eq_false_iff_eq.mpr c2
   clear c2
   obtain rfl := Option.some.inj H
   go_enter Try.func54, Try.ntmps54
   go_wp2
   go_ret
   exact ⟨by first | rfl | (simp; done) | (simp [*]; done), by repeat (first | exact Drawn0.refl _ | apply Drawn0.step)⟩
 rw [if_neg c2] at H
 have c2b0 : (a0.toList == ([65] : List UInt8)) = false := beq_eq_false_iff_ne.mpr c2
 have c2b1 : (a0.toList != ([65] : List UInt8)) = true := bne_iff_ne.mpr c2
 by_cases c3 : a0.toList = ([66] : List UInt8)
 · rw [if_pos c3] at H
   have c3b0 : (a0.toList == ([66] : List UInt8)) = true := beq_iff_eq.mpr c3
   have c3b1 : (a0.toList != ([66] : List UInt8)) = false := bne_eq_false_iff_eq.mpr c3
   clear c3
   obtain rfl := Option.some.inj H
   go_enter Try.func54, Try.ntmps54
   go_wp2
   go_ret
   exact ⟨by first | rfl | (simp; done) | (simp [*]; done), by repeat (first | exact Drawn0.refl _ | apply Drawn0.step)⟩
 rw [if_neg c3] at H
 have c3b0 : (a0.toList == ([66] : List UInt8)) = false := beq_eq_false_iff_ne.mpr c3
 have c3b1 : (a0.toList != ([66] : List UInt8)) = true := bne_iff_ne.mpr c3
 by_cases c4 : a0.toList = ([67] : List UInt8)
 · rw [if_pos c4] at H
   have c4b0 : (a0.toList == ([67] : List UInt8)) = true := beq_iff_eq.mpr c4
   have c4b1 : (a0.toList != ([67] : List UInt8)) = false := bne_eq_false_iff_eq.mpr c4
   clear c4
   obtain rfl := Option.some.inj H
   go_enter Try.func54, Try.ntmps54
   go_wp2
   go_ret
   exact ⟨by first | rfl | (simp; done) | (simp [*]; done), by repeat (first | exact Drawn0.refl _ | apply Drawn0.step)⟩
 rw [if_neg c4] at H
 have c4b0 : (a0.toList == ([67] : List UInt8)) = false := beq_eq_false_iff_ne.mpr c4
 have c4b1 : (a0.toList != ([67] : List UInt8)) = true := bne_iff_ne.mpr c4
 obtain rfl := Option.some.inj H
 go_enter Try.func54, Try.ntmps54
 go_wp2
 go_ret
 exact ⟨by first | rfl | (simp; done) | (simp [*]; done), by repeat (first | exact Drawn0.refl _ | apply Drawn0.step)⟩
/-! ### impl_VolOk: function 20 -/
def impl_VolOk.l0 : Nat → List Int → Int → Int → ByteArray → List Int → Option (Bool)
 | 0, _, _, _, _, _ => none
 | k + 1, x6, x7, x8, x498000, x498001 => if x8 < x7 then (if 0 ≤ x8 then (if x8 < (x6.length : Int) then ((impl_within.f (rd x6 x8) 0 8).bind fun t499 => (if t499 = true then (impl_VolOk.l0 k x6 x7 (wrap64 (x8 + 1)) x498000 x498001) else (some false))) else (none)) else (none)) else ((impl_isName.f x498000).bind fun t500 => (if t500 = true then ((impl_within.f (x498001.length : Int) 1 6).bind fun t501 => (some t501)) else (some false)))
def impl_VolOk.f (k : Nat) (a0_0 : ByteArray) (l0_1 : List Int) : Option (Bool) := impl_VolOk.l0 k l0_1 (l0_1.length : Int) 0 a0_0 l0_1
theorem impl_VolOk.mono_l : ∀ k, (∀ y0 y1 y2 y3 y4, LeO (impl_VolOk.l0 k y0 y1 y2 y3 y4) (impl_VolOk.l0 (k + 1) y0 y1 y2 y3 y4))
 | 0 => fun _ _ _ _ _ r h => by simp [impl_VolOk.l0] at h
 | k + 1 => by
  have ih0 := impl_VolOk.mono_l k
  intro y0 y1 y2 y3 y4
  unfold impl_VolOk.l0
  exact mo1 ih0
theorem impl_VolOk.mono : ∀ a0 a1 k, LeO (impl_VolOk.f k a0 a1) (impl_VolOk.f (k + 1) a0 a1) := by
 intro a0 a1 k
 have ih0 := impl_VolOk.mono_l k
 unfold impl_VolOk.f
 exact mo1 ih0
set_option maxHeartbeats 8000000 in
set_option maxRecDepth 100000 in
theorem impl_VolOk.calls (k : Nat) (a0_0 : ByteArray) (A0_1 : Option Addr) (c0_1 : Nat) (l0_1 : List Int) (r : Bool) (w : World) (hr0_1 : Kd.C (Kd.int .i64) w A0_1 l0_1.length l0_1) (hc0_1 : l0_1.length ≤ c0_1) (h : impl_VolOk.f k a0_0 l0_1 = some r) :
 Calls Try.prog 20 #[.agg #[.string a0_0, .slice A0_1 l0_1.length c0_1]] w fun e w' => e = .returned (.bool r) ∧ Below w.heap.size w w' := by
 have hu38 := Try.underlying38
 have HR0_1 := am hr0_1
 have HC0_1 := am hc0_1
 clear hr0_1 hc0_1
 have HB := am (Below.refl w.heap.size w)
 have H : (impl_VolOk.l0 k l0_1 (l0_1.length : Int) 0 a0_0 l0_1) = some r := h
 clear h
 have H' := am H
 clear H
 go_enter Try.func20, Try.ntmps20
 go_wp2_with (first | ((with_reducible refine gate_dst (N := 1) rfl ?_); (try (refine gate_guard (by rfl) ?_; dsimp only)); refine bx 38 #[.string a0_0, .slice A0_1 l0_1.length c0_1] ?_; intro gb497 hg w2 hbox hb; have BK497 := am (hbox); have GW497 := am (zn hg (zb HB)); have GE497 := am (zn hg (zb HB)); replace HB := am (below_step (zb HB) hb); clear hb hbox hg; have hcz3_0 := ce0 BK497; have hcz3_1 := ce1 BK497; have hfz3_0 := bfz BK497 0; have hfz3_1 := bfz BK497 1))
 go_loopg [8] k (fun kq v8 w' => ∃ (x8_1 : Int), v8 = .int .i64 x8_1 ∧ Aside0 (impl_VolOk.l0 kq l0_1 (l0_1.length : Int) x8_1 a0_0 l0_1 = some r) ∧ Aside0 (kq ≤ k) ∧ Aside0 (w'.heap[gb497]? = some (.cells #[.string a0_0, (.slice A0_1 l0_1.length c0_1)] 38 (0, 0))) ∧ Aside0 (Below w.heap.size w w'))
 case atStart => exact ⟨(0), ze, H', ⟨Nat.le_refl _⟩, ⟨zk BK497⟩, ⟨zb HB⟩⟩
 case round =>
  clear H'
  try clear c2
  try clear p2
  try clear hcz3_0
  try clear hcz3_1
  try clear hfz3_0
  try clear hfz3_1
  obtain ⟨x8_1, rfl, HA, HK1, BK497, HB⟩ := hrel
  cases gk with
  | zero => exact absurd HA.out (by simp [impl_VolOk.l0])
  | succ k1 =>
   have H := HA.out
   clear HA
   simp only [impl_VolOk.l0] at H
   by_cases c4 : x8_1 < (l0_1.length : Int)
   rotate_left
   · rw [if_neg c4] at H
     have c4b0 : decide (x8_1 < (l0_1.length : Int)) = false := decide_eq_false c4
     clear c4
     replace H := obs H
     obtain ⟨t500, A90, H⟩ := H
     replace H : (if t500 = true then ((impl_within.f (l0_1.length : Int) 1 6).bind fun t501 => (some t501)) else (some false)) = some r := H
     have A9 := am A90
     clear A90
     by_cases c10 : t500 = true
     rotate_left
     · replace c10 := Bool.eq_false_iff.mpr c10
       subst c10
       have H1 : (some false) = some r := by rw [if_neg (show ¬ (false = true) by decide)] at H; exact H
       clear H
       have H := H1
       clear H1
       obtain rfl := Option.some.inj H
       have hcz13_0 := ce0 BK497
       have hcz13_1 := ce1 BK497
       have hfz13_0 := bfz BK497 0
       have hfz13_1 := bfz BK497 1
       go_wp2_with (first | ((with_reducible refine gate_callee (f := 54) rfl ?_); refine gl Try.func54 18 #[.string a0_0] rfl rfl rfl ?_; (with_reducible refine (impl_isName.calls a0_0 false _ A9.out).mono ?_); rintro e w' ⟨rfl, ⟨nd, rfl⟩⟩; refine ⟨_, rfl, ?_⟩))
       go_ret
       exact ⟨zv, (zb HB)⟩
     subst c10
     have H1 : ((impl_within.f (l0_1.length : Int) 1 6).bind fun t501 => (some t501)) = some r := by rw [if_pos rfl] at H; exact H
     clear H
     have H := H1
     clear H1
     replace H := obs H
     obtain ⟨t501, A110, H⟩ := H
     replace H : (some t501) = some r := H
     have A11 := am A110
     clear A110
     obtain rfl := Option.some.inj H
     have hcz12_0 := ce0 BK497
     have hcz12_1 := ce1 BK497
     have hfz12_0 := bfz BK497 0
     have hfz12_1 := bfz BK497 1
     go_wp2_with (first | ((with_reducible refine gate_callee (f := 54) rfl ?_); refine gl Try.func54 18 #[.string a0_0] rfl rfl rfl ?_; (with_reducible refine (impl_isName.calls a0_0 true _ A9.out).mono ?_); rintro e w' ⟨rfl, ⟨nd, rfl⟩⟩; refine ⟨_, rfl, ?_⟩) | (go_at_call 53; (with_reducible refine (impl_within.calls (l0_1.length : Int) 1 6 t501 _ A11.out).mono ?_); rintro e w' ⟨rfl, ⟨nd, rfl⟩⟩))
     go_ret
     exact ⟨zv, (zb HB)⟩
   rw [if_pos c4] at H
   have c4b0 : decide (x8_1 < (l0_1.length : Int)) = true := decide_eq_true c4
   clear c4
   by_cases c5 : 0 ≤ x8_1
   rotate_left
   · rw [if_neg c5] at H
     exact absurd H (by simp)
   rw [if_pos c5] at H
   have c5b0 : decide (0 ≤ x8_1) = true := decide_eq_true c5
   clear c5
   by_cases c6 : x8_1 < (l0_1.length : Int)
   rotate_left
   · rw [if_neg c6] at H
     exact absurd H (by simp)
   rw [if_pos c6] at H
   have c6b0 : decide (x8_1 < (l0_1.length : Int)) = true := decide_eq_true c6
   clear c6
   replace H := obs H
   obtain ⟨t499, A70, H⟩ := H
   replace H : (if t499 = true then (impl_VolOk.l0 k1 l0_1 (l0_1.length : Int) (wrap64 (x8_1 + 1)) a0_0 l0_1) else (some false)) = some r := H
   have A7 := am A70
   clear A70
   by_cases c8 : t499 = true
   · subst c8
     have H1 : (impl_VolOk.l0 k1 l0_1 (l0_1.length : Int) (wrap64 (x8_1 + 1)) a0_0 l0_1) = some r := by rw [if_pos rfl] at H; exact H
     clear H
     have H := H1
     clear H1
     have H' := am H
     clear H
     have p498 : 0 ≤ (x8_1 : Int) := of_decide_eq_true zl
     have q498 : x8_1 < (l0_1.length : Int) := of_decide_eq_true zl
     obtain ⟨ad498, e498, hx498_0⟩ := Kd.at_int HR0_1.out x8_1 p498 q498
     cases e498
     replace hx498_0 := hcx HB hx498_0
     replace p498 := eq_true p498
     replace q498 := eq_true q498
     go_wp2_with (first | ((with_reducible refine gate_callee (f := 53) rfl ?_); refine gl Try.func53 13 #[.int .i64 (rd l0_1 x8_1), .int .i64 0, .int .i64 8] rfl rfl rfl ?_; (with_reducible refine (impl_within.calls (rd l0_1 x8_1) 0 8 true _ A7.out).mono ?_); rintro e w' ⟨rfl, ⟨nd, rfl⟩⟩; refine ⟨_, rfl, ?_⟩))
     go_roundg k1
     case measure => have := HK1.out; omega
     case rel => exact ⟨(wrap64 (x8_1 + 1)), ze, H', ⟨by have := HK1.out; omega⟩, ⟨zk BK497⟩, ⟨zb HB⟩⟩
   replace c8 := Bool.eq_false_iff.mpr c8
   subst c8
   have H1 : (some false) = some r := by rw [if_neg (show ¬ (false = true) by decide)] at H; exact H
   clear H
   have H := H1
   clear H1
   obtain rfl := Option.some.inj H
   have p498 : 0 ≤ (x8_1 : Int) := of_decide_eq_true zl
   have q498 : x8_1 < (l0_1.length : Int) := of_decide_eq_true zl
   obtain ⟨ad498, e498, hx498_0⟩ := Kd.at_int HR0_1.out x8_1 p498 q498
   cases e498
   replace hx498_0 := hcx HB hx498_0
   replace p498 := eq_true p498
   replace q498 := eq_true q498
   go_wp2_with (first | ((with_reducible refine gate_callee (f := 53) rfl ?_); refine gl Try.func53 13 #[.int .i64 (rd l0_1 x8_1), .int .i64 0, .int .i64 8] rfl rfl rfl ?_; (with_reducible refine (impl_within.calls (rd l0_1 x8_1) 0 8 false _ A7.out).mono ?_); rintro e w' ⟨rfl, ⟨nd, rfl⟩⟩; refine ⟨_, rfl, ?_⟩))
   go_ret
   exact ⟨zv, (zb HB)⟩
/-! ### impl_TextOk: function 68 -/
def impl_TextOk.l0 : Nat → ByteArray → Int → Int → Option (Bool)
 | 0, _, _, _ => none
 | k + 1, x0, x5, x6 => if x6 < x5 then (if 0 ≤ x6 then (if x6 < (x0.size : Int) then ((impl_within.f (wrap64 (bt x0 x6)) 97 100).bind fun t502 => (if t502 = true then (impl_TextOk.l0 k x0 x5 (wrap64 (x6 + 1))) else (some false))) else (none)) else (none)) else (some (decide ((x0.size : Int) ≤ 4)))
def impl_TextOk.f (k : Nat) (a0 : ByteArray) : Option (Bool) := impl_TextOk.l0 k a0 (a0.size : Int) 0
theorem impl_TextOk.mono_l : ∀ k, (∀ y0 y1 y2, LeO (impl_TextOk.l0 k y0 y1 y2) (impl_TextOk.l0 (k + 1) y0 y1 y2))
 | 0 => fun _ _ _ r h => by simp [impl_TextOk.l0] at h
 | k + 1 => by
  have ih0 := impl_TextOk.mono_l k
  intro y0 y1 y2
  unfold impl_TextOk.l0
  exact mo1 ih0
theorem impl_TextOk.mono : ∀ a0 k, LeO (impl_TextOk.f k a0) (impl_TextOk.f (k + 1) a0) := by
 intro a0 k
 have ih0 := impl_TextOk.mono_l k
 unfold impl_TextOk.f
 exact mo1 ih0
set_option maxHeartbeats 8000000 in
set_option maxRecDepth 100000 in
theorem impl_TextOk.calls (k : Nat) (a0 : ByteArray) (r : Bool) (w : World) (h : impl_TextOk.f k a0 = some r) :
 Calls Try.prog 68 #[.string a0] w fun e w' => e = .returned (.bool r) ∧ Drawn0 w w' := by
 have H : (impl_TextOk.l0 k a0 (a0.size : Int) 0) = some r := h
 clear h
 have H' := am H
 clear H
 go_enter Try.func68, Try.ntmps68
 go_wp2
 go_loopg [6] k (fun kq v6 w' => ∃ (x6_1 : Int), v6 = .int .i64 x6_1 ∧ Aside0 (impl_TextOk.l0 kq a0 (a0.size : Int) x6_1 = some r) ∧ Aside0 (kq ≤ k) ∧ Drawn0 w w')
 case atStart => exact ⟨(0), ze, H', ⟨Nat.le_refl _⟩, by repeat (first | exact Drawn0.refl _ | apply Drawn0.step)⟩
 case round =>
  clear H'
  obtain ⟨x6_1, rfl, HA, HK1, ⟨m1, rfl⟩⟩ := hrel
  cases gk with
  | zero => exact absurd HA.out (by simp [impl_TextOk.l0])
  | succ k1 =>
   have H := HA.out
   clear HA
   simp only [impl_TextOk.l0] at H
   by_cases c2 : x6_1 < (a0.size : Int)
   rotate_left
   · rw [if_neg c2] at H
     have c2b0 : decide (x6_1 < (a0.size : Int)) = false := decide_eq_false c2
     clear c2
     obtain rfl := Option.some.inj H
     go_wp2
     go_ret
     exact ⟨by first | rfl | (simp; done) | (simp [*]; done), by repeat (first | exact Drawn0.refl _ | apply Drawn0.step)⟩
   rw [if_pos c2] at H
   have c2b0 : decide (x6_1 < (a0.size : Int)) = true := decide_eq_true c2
   clear c2
   by_cases c3 : 0 ≤ x6_1
   rotate_left
   · rw [if_neg c3] at H
     exact absurd H (by simp)
   rw [if_pos c3] at H
   have c3b0 : decide (0 ≤ x6_1) = true := decide_eq_true c3
   clear c3
   by_cases c4 : x6_1 < (a0.size : Int)
   rotate_left
   · rw [if_neg c4] at H
     exact absurd H (by simp)
   rw [if_pos c4] at H
   have c4b0 : decide (x6_1 < (a0.size : Int)) = true := decide_eq_true c4
   clear c4
   replace H := obs H
   obtain ⟨t502, A60, H⟩ := H
   replace H : (if t502 = true then (impl_TextOk.l0 k1 a0 (a0.size : Int) (wrap64 (x6_1 + 1))) else (some false)) = some r := H
   have A6 := am A60
   clear A60
   by_cases c7 : t502 = true
   · subst c7
     have H1 : (impl_TextOk.l0 k1 a0 (a0.size : Int) (wrap64 (x6_1 + 1))) = some r := by rw [if_pos rfl] at H; exact H
     clear H
     have H := H1
     clear H1
     have H' := am H
     clear H
     have p5 : 0 ≤ (x6_1 : Int) := of_decide_eq_true zl
     have q5 : x6_1 < (a0.size : Int) := of_decide_eq_true zl
     have hx5 := bt_at a0 x6_1
     replace p5 := eq_true p5
     replace q5 := eq_true q5
     go_wp2_with (first | ((with_reducible refine gate_callee (f := 53) rfl ?_); refine gl Try.func53 13 #[.int .i64 (wrap64 (bt a0 x6_1)), .int .i64 97, .int .i64 100] rfl rfl rfl ?_; (with_reducible refine (impl_within.calls (wrap64 (bt a0 x6_1)) 97 100 true _ A6.out).mono ?_); rintro e w' ⟨rfl, ⟨nd, rfl⟩⟩; refine ⟨_, rfl, ?_⟩))
     go_roundg k1
     case measure => have := HK1.out; omega
     case rel => exact ⟨(wrap64 (x6_1 + 1)), ze, H', ⟨by have := HK1.out; omega⟩, by repeat (first | exact Drawn0.refl _ | apply Drawn0.step)⟩
   replace c7 := Bool.eq_false_iff.mpr c7
   subst c7
   have H1 : (some false) = some r := by rw [if_neg (show ¬ (false = true) by decide)] at H; exact H
   clear H
   have H := H1
   clear H1
   obtain rfl := Option.some.inj H
   have p5 : 0 ≤ (x6_1 : Int) := of_decide_eq_true zl
   have q5 : x6_1 < (a0.size : Int) := of_decide_eq_true zl
   have hx5 := bt_at a0 x6_1
   replace p5 := eq_true p5
   replace q5 := eq_true q5
   go_wp2_with (first | ((with_reducible refine gate_callee (f := 53) rfl ?_); refine gl Try.func53 13 #[.int .i64 (wrap64 (bt a0 x6_1)), .int .i64 97, .int .i64 100] rfl rfl rfl ?_; (with_reducible refine (impl_within.calls (wrap64 (bt a0 x6_1)) 97 100 false _ A6.out).mono ?_); rintro e w' ⟨rfl, ⟨nd, rfl⟩⟩; refine ⟨_, rfl, ?_⟩))
   go_ret
   exact ⟨by first | rfl | (simp; done) | (simp [*]; done), by repeat (first | exact Drawn0.refl _ | apply Drawn0.step)⟩
end Go.Proofs.Ytooamacekmjpaaa.PFnVolText
