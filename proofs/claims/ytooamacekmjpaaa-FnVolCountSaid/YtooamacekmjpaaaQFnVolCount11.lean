/- The walk: each function that the law comes to as a plain Lean function, and a proof that the Go code answers so. Written by this session's program over the kit's printer. -/
import Derived.Test.YtooamacekmjpaaaZ
import Derived.Test.YtooamacekmjpaaaQFnVolCount0
import Derived.Test.YtooamacekmjpaaaQFnVolCount1
import Derived.Test.YtooamacekmjpaaaQFnVolCount6
import Derived.Test.YtooamacekmjpaaaQFnVolCount10
namespace Go.Proofs.Ytooamacekmjpaaa.PFnVolCount
open Go.RowKit Go.Proofs.YtooamacekmjpaaaW.PrintWords Go.Proofs.YtooamacekmjpaaaW.PrintLast Go.Proofs.YtooamacekmjpaaaW.PrintMore
attribute [local go_sem] max2_int min2_int max_two min_two max_three min_three max_four min_four   -- for this text's walks alone
set_option linter.unusedVariables false
set_option linter.unusedSimpArgs false
/-! ### spec_DrawVolOk: function 19 -/
def spec_DrawVolOk.j0 : Nat → List Int → Int → ByteArray → List Int → Option (ByteArray × List Int)
 | 0, _, _, _, _ => none
 | k + 1, x450000, x450001, x462000, x462001 => (spec_l6Rd_pick.f k x450000 x450001 8).bind fun bt466 => (if bt466.1 = 0 then ((spec_l6Rd_of.f k x450000 bt466.2 (([(⟨#[]⟩ : ByteArray), (⟨#[69]⟩ : ByteArray), (⟨#[98]⟩ : ByteArray), (⟨#[65, 66]⟩ : ByteArray)] : List ByteArray))).bind fun bt471 => (some (bt471.1, x462001))) else (if bt466.1 = 1 then ((spec_l6Rd_pick.f k x450000 bt466.2 (x462001.length : Int)).bind fun bt473 => ((spec_l6Rd_pick.f k x450000 bt473.2 11).bind fun bt475 => (if 0 ≤ bt473.1 then (if bt473.1 < (x462001.length : Int) then (some (x462000, (x462001.set (bt473.1 : Int).toNat (wrap64 (bt475.1 - 1))))) else (none)) else (none)))) else (if bt466.1 = 2 then (if 1 ≤ (x462001.length : Int) then (some (x462000, (x462001.drop (1 : Int).toNat))) else (none)) else (some (x462000, x462001)))))
def spec_DrawVolOk.f (k : Nat) (l0 : List Int) : Option (ByteArray × List Int) := (spec_l6Open.f l0).bind fun bt447 => ((spec_l71Pool.f k bt447.1 bt447.2).bind fun bt450 => (if (bt450.2.1.length : Int) > 0 then ((spec_l6Rd_pick.f k bt447.1 bt450.2.2 (bt450.2.1.length : Int)).bind fun bt462 => (if 0 ≤ bt462.1 then (if bt462.1 < (bt450.2.1.length : Int) then (spec_DrawVolOk.j0 k bt447.1 bt462.2 ((rd_T38 bt450.2.1 bt462.1).f0) ((rd_T38 bt450.2.1 bt462.1).f1)) else (none)) else (none))) else (spec_DrawVolOk.j0 k bt447.1 bt450.2.2 (⟨#[66]⟩ : ByteArray) (([0, 3, 8] : List Int)))))
theorem spec_DrawVolOk.mono_l : ∀ k, (∀ y0 y1 y2 y3, LeO (spec_DrawVolOk.j0 k y0 y1 y2 y3) (spec_DrawVolOk.j0 (k + 1) y0 y1 y2 y3))
 | 0 => fun _ _ _ _ r h => by simp [spec_DrawVolOk.j0] at h
 | k + 1 => by
  have ih0 := spec_DrawVolOk.mono_l k
  intro y0 y1 y2 y3
  unfold spec_DrawVolOk.j0
  exact mo4 ih0 @spec_l6Rd_of.mono @spec_l6Rd_pick.mono @spec_l71Pool.mono
theorem spec_DrawVolOk.mono : ∀ a0 k, LeO (spec_DrawVolOk.f k a0) (spec_DrawVolOk.f (k + 1) a0) := by
 intro a0 k
 have ih0 := spec_DrawVolOk.mono_l k
 unfold spec_DrawVolOk.f
 exact mo4 ih0 @spec_l6Rd_of.mono @spec_l6Rd_pick.mono @spec_l71Pool.mono
def spec_DrawVolOk.T5 : Bool × List (List Nat × List Nat) := (true, [([], []), ([0], [0]), ([], []), ([], []), ([3], [3]), ([4], [4]), ([2, 5], [2, 5]), ([1, 6], [1, 6]), ([7], [7]), ([8, 6, 0, 1, 2, 3, 4, 5, 6, 7, 8], [8])])
def spec_DrawVolOk.B5 : List Nat := [0, 1, 0, 0, 8, 24, 60, 127, 255, 511]
theorem spec_DrawVolOk.tab5 : rtab .any (opsOf Try.f19 5) = spec_DrawVolOk.T5 := by kernel_rfl
theorem spec_DrawVolOk.bits5 : waitsOk spec_DrawVolOk.T5.2 spec_DrawVolOk.B5 = true := by kernel_rfl
def spec_DrawVolOk.T10 : Bool × List (List Nat × List Nat) := (true, [([], []), ([0], [0]), ([], []), ([], []), ([3], [3]), ([4], [4]), ([2, 5], [2, 5]), ([], []), ([7, 6], [7]), ([8], [8]), ([1, 6, 0, 1, 2, 3, 4, 5, 6, 7, 8, 9], [1, 6]), ([10, 9, 8, 0, 1, 2, 3, 4, 5, 6, 7, 8, 9], [9, 10])])
def spec_DrawVolOk.B10 : List Nat := [0, 1, 0, 0, 8, 24, 60, 0, 252, 508, 1023, 2047]
theorem spec_DrawVolOk.tab10 : rtab .any (opsOf Try.f19 10) = spec_DrawVolOk.T10 := by kernel_rfl
theorem spec_DrawVolOk.bits10 : waitsOk spec_DrawVolOk.T10.2 spec_DrawVolOk.B10 = true := by kernel_rfl
set_option maxHeartbeats 8000000 in
set_option maxRecDepth 100000 in
theorem spec_DrawVolOk.calls (k : Nat) (A0 : Option Addr) (c0 : Nat) (l0 : List Int) (r1 : ByteArray) (r2 : List Int) (w : World) (hr0 : Kd.C (Kd.int .u8) w A0 l0.length l0) (hc0 : l0.length ≤ c0) (h : spec_DrawVolOk.f k l0 = some (r1, r2)) :
 Calls Try.prog 19 #[.slice A0 l0.length c0] w fun e w' => ∃ v1_ : Value, e = .returned (.agg #[.string r1, v1_]) ∧ Kd.Q (Kd.int .i64) 3 w' w.heap.size (fun _ => True) v1_ r2 ∧ Below w.heap.size w w' := by
 have hu38 := Try.underlying38
 have hu31 := Try.underlying31
 have HR0 := am hr0
 have HC0 := am hc0
 clear hr0 hc0
 have HB := am (Below.refl w.heap.size w)
 have H : ((spec_l6Open.f l0).bind fun bt447 => ((spec_l71Pool.f k bt447.1 bt447.2).bind fun bt450 => (if (bt450.2.1.length : Int) > 0 then ((spec_l6Rd_pick.f k bt447.1 bt450.2.2 (bt450.2.1.length : Int)).bind fun bt462 => (if 0 ≤ bt462.1 then (if bt462.1 < (bt450.2.1.length : Int) then (spec_DrawVolOk.j0 k bt447.1 bt462.2 ((rd_T38 bt450.2.1 bt462.1).f0) ((rd_T38 bt450.2.1 bt462.1).f1)) else (none)) else (none))) else (spec_DrawVolOk.j0 k bt447.1 bt450.2.2 (⟨#[66]⟩ : ByteArray) (([0, 3, 8] : List Int)))))) = some (r1, r2) := h
 clear h
 replace H := obs H
 obtain ⟨⟨t447, t448⟩, A20, H⟩ := H
 replace H : ((spec_l71Pool.f k t447 t448).bind fun bt450 => (if (bt450.2.1.length : Int) > 0 then ((spec_l6Rd_pick.f k t447 bt450.2.2 (bt450.2.1.length : Int)).bind fun bt462 => (if 0 ≤ bt462.1 then (if bt462.1 < (bt450.2.1.length : Int) then (spec_DrawVolOk.j0 k t447 bt462.2 ((rd_T38 bt450.2.1 bt462.1).f0) ((rd_T38 bt450.2.1 bt462.1).f1)) else (none)) else (none))) else (spec_DrawVolOk.j0 k t447 bt450.2.2 (⟨#[66]⟩ : ByteArray) (([0, 3, 8] : List Int))))) = some (r1, r2) := H
 have A2 := am A20
 clear A20
 replace H := obs H
 obtain ⟨⟨t450, t453, t456⟩, A30, H⟩ := H
 replace H : (if (t453.length : Int) > 0 then ((spec_l6Rd_pick.f k t447 t456 (t453.length : Int)).bind fun bt462 => (if 0 ≤ bt462.1 then (if bt462.1 < (t453.length : Int) then (spec_DrawVolOk.j0 k t447 bt462.2 ((rd_T38 t453 bt462.1).f0) ((rd_T38 t453 bt462.1).f1)) else (none)) else (none))) else (spec_DrawVolOk.j0 k t447 t456 (⟨#[66]⟩ : ByteArray) (([0, 3, 8] : List Int)))) = some (r1, r2) := H
 have A3 := am A30
 clear A30
 obtain ⟨y458, hy458⟩ : ∃ y_ : List Int, y_ = (([0, 3, 8] : List Int)) := ⟨_, rfl⟩
 replace H : (if (t453.length : Int) > 0 then ((spec_l6Rd_pick.f k t447 t456 (t453.length : Int)).bind fun bt462 => (if 0 ≤ bt462.1 then (if bt462.1 < (t453.length : Int) then (spec_DrawVolOk.j0 k t447 bt462.2 ((rd_T38 t453 bt462.1).f0) ((rd_T38 t453 bt462.1).f1)) else (none)) else (none))) else (spec_DrawVolOk.j0 k t447 t456 (⟨#[66]⟩ : ByteArray) y458)) = some (r1, r2) := hY hy458 H
 have Ny458 := am hy458
 clear hy458
 have HC4 := am H
 clear H
 go_enter Try.func19, Try.ntmps19
 go_upto_if 15 with (first | ((with_reducible refine gate_dst (N := 2) rfl ?_); refine bx 38 #[.string (⟨#[]⟩ : ByteArray), .slice none 0 0] ?_; intro gb446 hg w5 hbox hb; have BK446 := am (hbox); have GW446 := am (zn hg (zb HB)); have GE446 := am (zn hg (zb HB)); replace HB := am (below_step (zb HB) hb); clear hb hbox hg) | ((with_reducible refine gate_callee (f := 49) rfl ?_); refine gl Try.func49 7 #[.slice A0 l0.length c0] rfl rfl rfl ?_; (with_reducible refine (spec_l6Open.calls _ _ l0 t447 t448 w _ ?side1 ?side2 ?side3 A2.out).mono ?_); (case side1 => exact zb HB); (case side2 => exact HR0.out); (case side3 => exact HC0.out); rintro e w6 ⟨g449, rfl, hi, hb, hb2⟩; refine ⟨_, rfl, ?_⟩; replace HB := am (hb); have HI449 := am (hi); have NB449_446 := am (IsS93.ne_blk hi (blk_below (zk BK446) hb2) (by decide)); have NB446_449 := am (Ne.symm (IsS93.ne_blk hi (blk_below (zk BK446) hb2) (by decide))); replace BK446 := am (blk_below (zk BK446) hb2); (try clear hb); (try clear hb2); (try clear hk); (try clear hi)) | ((with_reducible refine gate_callee (f := 50) rfl ?_); refine gl Try.func50 9 #[.pointer (some ⟨g449, 0, none⟩)] rfl rfl rfl ?_; (with_reducible refine (spec_l71Pool.calls k g449 t447 t448 t450 t453 t456 w _ ?side1 ?side2 A3.out).mono ?_); (case side1 => exact zi HI449); (case side2 => exact zb HB); rintro e w7 ⟨v451, v454, rfl, ho0, ho1, hi, hb, hk⟩; refine ⟨_, rfl, ?_⟩; have HO452 := am (Kd.R_lower ho0 (below_size (zb HB))); have HO455 := am (Kd.S_lower (Kd.S_newB ho1 (g := gb446) (o := .cells #[.string (⟨#[]⟩ : ByteArray), .slice none 0 0] 38 (0, 0)) (zk BK446)) (below_size (zb HB))); replace BK446 := am (KeepBut.blk hk (zk BK446) NB446_449.out (by simp)); replace HB := am (hb); replace HI449 := am (hi); (try clear hb); (try clear hb2); (try clear hk); (try clear hi); (try clear ho0); (try clear ho1)) | ((with_reducible refine gate_dst (N := 4) rfl ?_); refine bx 31 #[.slice none 0 0, .slice none 0 0] ?_; intro gb457 hg w8 hbox hb; replace HO452 := am (Kd.R_below (zr HO452) hb); replace HO455 := am (Kd.S_below (zs HO455) hb); have BK457 := am (hbox); have GW457 := am (zn hg (zb HB)); have GE457 := am (zn hg (zb HB)); replace HB := am (below_step (zb HB) hb); have NB446_457 := am (zx hg (zk BK446)); have NB457_446 := am (zy hg (zk BK446)); replace BK446 := am (blk_below (zk BK446) hb); have NB449_457 := am (ix hg (zi HI449)); have NB457_449 := am (iy hg (zi HI449)); replace HI449 := am (IsS93.below (zi HI449) hb); clear hb hbox hg; obtain ⟨Ao9, co9, eo9⟩ := Kd.R_slice HO452.out; subst eo9; have hnb10 := NB457_446.out; have hnc10 := NB446_457.out; have hnb11 := NB457_449.out; have hnc11 := NB449_457.out; have hcz12_0 := ce0 BK457; have hcz12_1 := ce1 BK457; have hfz12_0 := bfz BK457 0; have hfz12_1 := bfz BK457 1; obtain ⟨Ao13, co13, eo13⟩ := Kd.S_slice HO455.out; subst eo13) | ((with_reducible refine gate_dst (N := 10) rfl ?_); refine Kd.R_lit (Kd.int .i64) _ 3 ?hg (N := 10) ?hd (xs := ([0, 3, 8] : List Int)) (inner := [.int .i64 0, .int .i64 3, .int .i64 8]) (ok := fun _ => True) (okp := fun _ => True) ?hr ?hp (fun _ hk => hk) trivial (Below.refl _ _) (Nat.le_refl _) (by simp) ?_; (case hd => rfl); (case hg => rfl); (case hr => first | (go_simp; done) | (go_simp; rfl)); (case hp => exact (Reps.one (show Kd.M (Kd.int .i64) _ _ _ 0 [.int .i64 0] from rfl) (Reps.one (show Kd.M (Kd.int .i64) _ _ _ 3 [.int .i64 3] from rfl) (Reps.one (show Kd.M (Kd.int .i64) _ _ _ 8 [.int .i64 8] from rfl) (Reps.none _ _))))); intro v459 w14 ho15 hb hg_ hnew_; clear hg_ hnew_; (first | rw [← Ny458.out] at ho15 | (simp only [Int.reduceToNat] at ho15; rw [← Ny458.out] at ho15)); replace HO452 := am (Kd.R_below (rf HO452 BK457) hb); replace HO455 := am (Kd.S_elder' (sf HO455 BK457) (Kd.R_base ho15) hb); have HO460 := am (Kd.R_lower ho15 (below_size (zb HB))); replace BK446 := am (blk_below (zk BK446) hb); replace HI449 := am (IsS93.below (zi HI449) hb); replace BK457 := am (blk_below (g := gb457) (o := .cells #[.slice Ao9 t450.length co9, .slice Ao13 t453.length co13] 31 (0, 0)) (zp BK457) hb); replace HB := am (below_step (zb HB) hb); clear hb ho15; obtain ⟨Ao16, co16, eo16⟩ := Kd.R_slice HO460.out; subst eo16) | ((with_reducible refine gate_dst (N := 5) rfl ?_); refine bx 38 #[.string (⟨#[]⟩ : ByteArray), .slice none 0 0] ?_; intro gb461 hg w17 hbox hb; replace HO452 := am (Kd.R_below (zr HO452) hb); replace HO455 := am (Kd.S_below (Kd.S_elderB (zs HO455) gb461 (Nat.le_of_eq hg.symm)) hb); replace HO460 := am (Kd.R_below (zr HO460) hb); have BK461 := am (hbox); have GW461 := am (zn hg (zb HB)); have GE461 := am (zn hg (zb HB)); replace HB := am (below_step (zb HB) hb); have NB446_461 := am (zx hg (zk BK446)); have NB461_446 := am (zy hg (zk BK446)); replace BK446 := am (blk_below (zk BK446) hb); have NB457_461 := am (zx hg (zk BK457)); have NB461_457 := am (zy hg (zk BK457)); replace BK457 := am (blk_below (zk BK457) hb); have NB449_461 := am (ix hg (zi HI449)); have NB461_449 := am (iy hg (zi HI449)); replace HI449 := am (IsS93.below (zi HI449) hb); clear hb hbox hg; have hnb18 := NB461_446.out; have hnc18 := NB446_461.out; have hnb19 := NB461_457.out; have hnc19 := NB457_461.out; have hnb20 := NB461_449.out; have hnc20 := NB449_461.out; have hcz21_0 := ce0 BK461; have hcz21_1 := ce1 BK461; have hfz21_0 := bfz BK461 0; have hfz21_1 := bfz BK461 1; have hcz22_0 := ce0 BK457; have hcz22_1 := ce1 BK457; have hfz22_0 := bfz BK457 0; have hfz22_1 := bfz BK457 1))
 (try simp only [Act.put, List.setIfInBounds_toArray, List.set_cons_zero, List.set_cons_succ])
 go_cut [] (fun wc => ∃ (kq : Nat) (x450001_3 : Int) (x462000_3 : ByteArray) (x462001_3 : List Int) (u462001 : Value), Aside0 (spec_DrawVolOk.j0 kq t447 x450001_3 x462000_3 x462001_3 = some (r1, r2)) ∧ Aside0 (kq ≤ k) ∧ Aside0 (Kd.Q (Kd.int .i64) 3 wc w.heap.size (fun _ => True) u462001 x462001_3) ∧ Aside0 (wc.heap[gb446]? = some (.cells #[.string (⟨#[]⟩ : ByteArray), (.slice none 0 0)] 38 (0, 0))) ∧ Aside0 (wc.heap[gb461]? = some (.cells #[.string x462000_3, u462001] 38 (0, 0))) ∧ Aside0 (IsS93 w wc g449 t447 x450001_3) ∧ Aside0 (Below w.heap.size w wc))
 case first =>
  have H := HC4.out
  clear HC4
  by_cases c23 : (t453.length : Int) > 0
  rotate_left
  · rw [if_neg c23] at H
    have c23b0 : decide (0 < (t453.length : Int)) = false := decide_eq_false c23
    have c23b1 : decide (0 < t453.length) = false := decide_eq_false (by omega)
    clear c23
    (first | rw [c23b0] | (simp only [i64_w, i32_w]; rw [c23b0]) | skip)
    try rw [c23b1]
    have H' := am H
    clear H
    go_wp2
    go_meet
    case rel => exact ⟨_, (t456), ((⟨#[66]⟩ : ByteArray)), (y458), (.slice Ao16 y458.length co16), H', ⟨by first | omega | exact Nat.le_refl _⟩, ⟨Kd.Q_of_R (by (with_reducible repeat (first | apply Kd.R_alloc | apply Kd.R_drewN | apply Kd.R_drew)); exact Kd.R_mono (Kd.R_far (p := ⟨gb461, 1, none⟩) (Kd.R_far (p := ⟨gb461, 0, none⟩) (Kd.R_types HO460.out BK461.out (by decide)) (fun _ hk => by first | exact hk.2 | trivial) (.string (⟨#[66]⟩ : ByteArray))) (fun _ hk => by first | exact hk.2 | trivial) (.slice Ao16 y458.length co16)) (fun _ hk => trivial))⟩, ⟨zk BK446⟩, ⟨zp BK461⟩, ⟨zi HI449⟩, ⟨zb HB⟩⟩
  rw [if_pos c23] at H
  have c23b0 : decide (0 < (t453.length : Int)) = true := decide_eq_true c23
  have c23b1 : decide (0 < t453.length) = true := decide_eq_true (by omega)
  clear c23
  (first | rw [c23b0] | (simp only [i64_w, i32_w]; rw [c23b0]) | skip)
  try rw [c23b1]
  replace H := obs H
  obtain ⟨⟨t462, t463⟩, A240, H⟩ := H
  replace H : (if 0 ≤ t462 then (if t462 < (t453.length : Int) then (spec_DrawVolOk.j0 k t447 t463 ((rd_T38 t453 t462).f0) ((rd_T38 t453 t462).f1)) else (none)) else (none)) = some (r1, r2) := H
  have A24 := am A240
  clear A240
  by_cases c25 : 0 ≤ t462
  rotate_left
  · rw [if_neg c25] at H
    exact absurd H (by simp)
  rw [if_pos c25] at H
  have c25b0 : decide (0 ≤ t462) = true := decide_eq_true c25
  clear c25
  by_cases c26 : t462 < (t453.length : Int)
  rotate_left
  · rw [if_neg c26] at H
    exact absurd H (by simp)
  rw [if_pos c26] at H
  have c26b0 : decide (t462 < (t453.length : Int)) = true := decide_eq_true c26
  clear c26
  have H' := am H
  clear H
  try go_wp2
  have n0_ : Aside0 (Kd.R k55 55 ((w17.setCell ⟨gb461, 0, none⟩ (.string (⟨#[66]⟩ : ByteArray))).setCell ⟨gb461, 1, none⟩ (.slice Ao16 y458.length co16)) w.heap.size (fun _ => True) (.slice Ao9 t450.length co9) t450) := ⟨by (with_reducible repeat (first | apply Kd.R_alloc | apply Kd.R_drewN | apply Kd.R_drew)); exact Kd.R_mono (Kd.R_far (p := ⟨gb461, 1, none⟩) (Kd.R_far (p := ⟨gb461, 0, none⟩) (Kd.R_types HO452.out BK461.out (by decide)) (fun _ hk => hk.2) (.string (⟨#[66]⟩ : ByteArray))) (fun _ hk => hk.2) (.slice Ao16 y458.length co16)) (fun _ hk => trivial)⟩
  have n1_ : Aside0 (Kd.S k38 38 ((w17.setCell ⟨gb461, 0, none⟩ (.string (⟨#[66]⟩ : ByteArray))).setCell ⟨gb461, 1, none⟩ (.slice Ao16 y458.length co16)) w.heap.size (fun k_ => some k_ ≠ (.slice Ao16 y458.length co16 : Value).ownBlock ∧ k_ ≠ gb446 ∧ k_ ≠ gb461) (.slice Ao13 t453.length co13) t453) := ⟨by (with_reducible repeat (first | apply Kd.S_alloc | apply Kd.S_drewN | apply Kd.S_drew)); exact Kd.S_mono (Kd.S_far (p := ⟨gb461, 1, none⟩) (Kd.S_far (p := ⟨gb461, 0, none⟩) (Kd.S_mono HO455.out (fun k_ hk => (⟨hk, hk.2⟩ : _ ∧ k_ ≠ gb461))) (fun _ hk => hk.2) (.string (⟨#[66]⟩ : ByteArray))) (fun _ hk => hk.2) (.slice Ao16 y458.length co16)) (fun _ hk => ⟨hk.1.1.2, ⟨hk.1.1.1.2, hk.1.2⟩⟩)⟩
  have n2_ : Aside0 (Kd.R (Kd.int .i64) 3 ((w17.setCell ⟨gb461, 0, none⟩ (.string (⟨#[66]⟩ : ByteArray))).setCell ⟨gb461, 1, none⟩ (.slice Ao16 y458.length co16)) w.heap.size (fun _ => True) (.slice Ao16 y458.length co16) y458) := ⟨by (with_reducible repeat (first | apply Kd.R_alloc | apply Kd.R_drewN | apply Kd.R_drew)); exact Kd.R_mono (Kd.R_far (p := ⟨gb461, 1, none⟩) (Kd.R_far (p := ⟨gb461, 0, none⟩) (Kd.R_types HO460.out BK461.out (by decide)) (fun _ hk => hk.2) (.string (⟨#[66]⟩ : ByteArray))) (fun _ hk => hk.2) (.slice Ao16 y458.length co16)) (fun _ hk => trivial)⟩
  have n3_ : Aside0 (((w17.setCell ⟨gb461, 0, none⟩ (.string (⟨#[66]⟩ : ByteArray))).setCell ⟨gb461, 1, none⟩ (.slice Ao16 y458.length co16)).heap[gb446]? = some (.cells #[.string (⟨#[]⟩ : ByteArray), .slice none 0 0] 38 (0, 0))) := ⟨zk BK446⟩
  have n4_ : Aside0 (((w17.setCell ⟨gb461, 0, none⟩ (.string (⟨#[66]⟩ : ByteArray))).setCell ⟨gb461, 1, none⟩ (.slice Ao16 y458.length co16)).heap[gb457]? = some (.cells #[.slice Ao9 t450.length co9, .slice Ao13 t453.length co13] 31 (0, 0))) := ⟨zk BK457⟩
  have n5_ : Aside0 (((w17.setCell ⟨gb461, 0, none⟩ (.string (⟨#[66]⟩ : ByteArray))).setCell ⟨gb461, 1, none⟩ (.slice Ao16 y458.length co16)).heap[gb461]? = some (.cells #[.string (⟨#[66]⟩ : ByteArray), .slice Ao16 y458.length co16] 38 (0, 0))) := ⟨zp BK461⟩
  have n6_ : Aside0 (IsS93 w ((w17.setCell ⟨gb461, 0, none⟩ (.string (⟨#[66]⟩ : ByteArray))).setCell ⟨gb461, 1, none⟩ (.slice Ao16 y458.length co16)) g449 t447 t456) := ⟨zi HI449⟩
  have n7_ : Aside0 (Below w.heap.size w ((w17.setCell ⟨gb461, 0, none⟩ (.string (⟨#[66]⟩ : ByteArray))).setCell ⟨gb461, 1, none⟩ (.slice Ao16 y458.length co16))) := ⟨zb HB⟩
  (try clear HO452)
  (try clear HO455)
  (try clear HO460)
  (try clear BK446)
  (try clear BK457)
  (try clear BK461)
  (try clear HI449)
  (try clear HB)
  generalize ((w17.setCell ⟨gb461, 0, none⟩ (.string (⟨#[66]⟩ : ByteArray))).setCell ⟨gb461, 1, none⟩ (.slice Ao16 y458.length co16)) = w27 at n0_ n1_ n2_ n3_ n4_ n5_ n6_ n7_ ⊢
  have HO452 := n0_
  have HO455 := n1_
  have HO460 := n2_
  have BK446 := n3_
  have BK457 := n4_
  have BK461 := n5_
  have HI449 := n6_
  have HB := n7_
  clear n0_ n1_ n2_ n3_ n4_ n5_ n6_ n7_
  replace HO452 := am (Kd.R_drew HO452.out)
  replace HO455 := am (Kd.S_drew HO455.out)
  replace HO460 := am (Kd.R_drew HO460.out)
  replace BK446 := am (blk_drew BK446.out)
  replace BK457 := am (blk_drew BK457.out)
  replace BK461 := am (blk_drew BK461.out)
  replace HI449 := am (IsS93.drew HI449.out)
  replace HB := am (below_drew1 HB.out)
  have p464 : 0 ≤ (t462 : Int) := of_decide_eq_true zl
  have q464 : t462 < (t453.length : Int) := of_decide_eq_true zl
  obtain ⟨ad464, A464_1, c464_1, e464, hx464_0, hx464_1, hl464_1, hi464_1⟩ := at_T38 (Kd.S_reads' HO455.out).2.2 t462 p464 q464
  cases e464
  obtain ⟨ce464, hce464, hMe464, hcc464⟩ := Kd.S_get HO455.out z38 t462 p464 (by first | exact q464 | exact of_decide_eq_true zl | (have e_ := (Kd.S_reads' HO455.out).1; omega))
  obtain ⟨ve464_1, rfl, ge464_1⟩ := k38_openM hMe464
  have hv464_1 := hcc464 1 _ rfl
  rw [add_field _ _ 1 (by omega)] at hv464_1
  replace hv464_1 := Option.some.inj (hv464_1.symm.trans hx464_1)
  rw [hv464_1] at ge464_1
  have HL464_1 := am (show Kd.R (Kd.int .i64) 3 _ _ _ _ ((rd_T38 t453 t462).f1) from ge464_1)
  clear hv464_1 ge464_1 hcc464 hce464
  have HR464_1 := am hi464_1
  have HC464_1 := am hl464_1
  clear hi464_1 hl464_1
  replace p464 := eq_true p464
  replace q464 := eq_true q464
  refine start_ (n := 10) (S := fun w' => w'.cell? ⟨gb457, 0, none⟩ = some (.slice Ao9 t450.length co9) ∧ w'.cell? ⟨gb457, 1, none⟩ = some (.slice (some ad464) t453.length co13) ∧ w'.cell? (ad464.add ((t462).toNat * 2)) = some (.string ((rd_T38 t453 t462).f0)) ∧ w'.cell? ⟨(ad464.add ((t462).toNat * 2)).block, (ad464.add ((t462).toNat * 2)).off + 1, none⟩ = some (.slice A464_1 ((rd_T38 t453 t462).f1).length c464_1)) (ds := []) (bs 10 0) (by kernel_rfl) rfl rfl ⟨ce0 BK457, ce1 BK457, hx464_0, hx464_1⟩ (fun hHeld => ?_); refine with_tabW spec_DrawVolOk.tab5 spec_DrawVolOk.bits5 (fun HT_ HW_ => ?_)
  generalize w27.drew = w28 at HO452 HO455 HO460 BK446 BK457 BK461 HI449 HB HL464_1 HR464_1 hx464_0 hx464_1 hHeld ⊢
  refine pu 0 16 10 1 rfl rfl ?_
  refine pu 2 18 10 5 rfl rfl ?_
  refine pu 3 19 10 13 rfl rfl ?_
  refine ta4 1 17 10 15 rfl rfl hHeld ?_
  refine ta4 4 20 10 31 rfl rfl hHeld ?_
  refine pu 5 21 10 63 rfl rfl ?_
  refine oz 6 10 127 rfl rfl (fun K hK => ?_)
  refine gs Try.func51 #[.pointer (some ⟨g449, 0, none⟩), .int .i64 (t453.length : Int)] rfl rfl ?_
  with_reducible refine (spec_l6Rd_pick.calls k g449 t447 t456 (t453.length : Int) t462 t463 w _ ?side1 ?side2 A24.out).mono ?_
  (case side1 => exact zi HI449)
  (case side2 => exact zb HB)
  rintro e w29 ⟨rfl, hi, hb, hk⟩
  have HO465 := am (show Kd.R (Kd.int .i64) 3 w29 w.heap.size (fun _ => True) (.slice A464_1 ((rd_T38 t453 t462).f1).length c464_1) ((rd_T38 t453 t462).f1) from Kd.R_mono (Kd.R_keep (IsS93.apart (zi HI449) (zr HL464_1) (by decide)) hk (fun _ h => h.2)) (fun _ _ => trivial))
  have HS2_ := keep_cell hk (hHeld.2.2.1) (by first | (rw [add_block]; exact Kd.own_blk (IsS93.own_neS HI449.out HO455.out (by decide))) | (show (Addr.add _ _).block ≠ _; rw [add_block]; exact Kd.own_blk (IsS93.own_neS HI449.out HO455.out (by decide))) | exact Kd.own_blk (IsS93.own_neS HI449.out HO455.out (by decide)))
  have HS3_ := keep_cell hk (hHeld.2.2.2) (by first | (rw [add_block]; exact Kd.own_blk (IsS93.own_neS HI449.out HO455.out (by decide))) | (show (Addr.add _ _).block ≠ _; rw [add_block]; exact Kd.own_blk (IsS93.own_neS HI449.out HO455.out (by decide))) | exact Kd.own_blk (IsS93.own_neS HI449.out HO455.out (by decide)))
  refine ⟨_, rfl, ?_⟩
  replace BK446 := am (KeepBut.blk hk (zk BK446) NB446_449.out (by simp))
  replace HO452 := am (Kd.R_mono (Kd.R_keep (IsS93.apart (zi HI449) (zr HO452) (by decide)) hk (fun _ h => h.2)) (fun _ h => h.1))
  replace HO455 := am (Kd.S_mono (Kd.S_keep (IsS93.apartS (zi HI449) (zs HO455) (by decide)) hk (fun _ h => h.2)) (fun _ h => h.1))
  replace BK457 := am (KeepBut.blk hk (zk BK457) NB457_449.out (by simp))
  replace HO460 := am (Kd.R_mono (Kd.R_keep (IsS93.apart (zi HI449) (zr HO460) (by decide)) hk (fun _ h => h.2)) (fun _ h => h.1))
  replace BK461 := am (KeepBut.blk hk (zk BK461) NB461_449.out (by simp))
  replace HB := am (hb)
  replace HI449 := am (hi)
  (try clear hb)
  (try clear hb2)
  (try clear hk)
  (try clear hi)
  refine hK.out _ _ ⟨ce0 BK457, ce1 BK457, HS2_, HS3_⟩ (fun hHeld => ?_)
  clear hK K
  refine norm_ (a' := ?_) ?_ ?_
  rotate_left
  · show Act.put _ (some 22) _ = _
    simp only [Act.put, List.setIfInBounds_toArray, List.set_cons_zero, List.set_cons_succ, i64_w, i32_w]
    rfl
  refine pu 7 23 10 255 rfl rfl ?_
  refine ta4 8 24 10 511 rfl rfl hHeld ?_
  refine oz 9 10 1023 rfl rfl (fun K hK => ?_)
  have hs30 := ce0 BK461
  have hfs30 := bfz BK461 0
  have hns30_0 := NB446_461.out
  have hns30_1 := NB457_461.out
  have hms30_0 := NB461_446.out
  have hms30_1 := NB461_457.out
  have hs31 := ce1 BK461
  have hfs31 := bfz BK461 1
  have hns31_0 := NB446_461.out
  have hns31_1 := NB457_461.out
  have hms31_0 := NB461_446.out
  have hms31_1 := NB461_457.out
  refine skip_ (w1 := ?_) (by rfl) rfl ?_ ?_
  rotate_left
  · go_simp
    rfl
  refine hK.out _ _ ⟨((cell_far (p := ⟨gb461, _, none⟩) NB457_461.out _).trans (((cell_far (p := ⟨gb461, _, none⟩) NB457_461.out _).trans (hHeld.1)))), ((cell_far (p := ⟨gb461, _, none⟩) NB457_461.out _).trans (((cell_far (p := ⟨gb461, _, none⟩) NB457_461.out _).trans (hHeld.2.1)))), ((cell_far (p := ⟨gb461, _, none⟩) (by first | exact Kd.own_blk (Kd.S_away HO455.out (fun _ hk => hk.2.2)) | (rw [add_block]; exact Kd.own_blk (Kd.S_away HO455.out (fun _ hk => hk.2.2))) | (show (Addr.add _ _).block ≠ _; rw [add_block]; exact Kd.own_blk (Kd.S_away HO455.out (fun _ hk => hk.2.2))) | (dsimp only; exact Kd.own_blk (Kd.S_away HO455.out (fun _ hk => hk.2.2)))) _).trans (((cell_far (p := ⟨gb461, _, none⟩) (by first | exact Kd.own_blk (Kd.S_away HO455.out (fun _ hk => hk.2.2)) | (rw [add_block]; exact Kd.own_blk (Kd.S_away HO455.out (fun _ hk => hk.2.2))) | (show (Addr.add _ _).block ≠ _; rw [add_block]; exact Kd.own_blk (Kd.S_away HO455.out (fun _ hk => hk.2.2))) | (dsimp only; exact Kd.own_blk (Kd.S_away HO455.out (fun _ hk => hk.2.2)))) _).trans (hHeld.2.2.1)))), ((cell_far (p := ⟨gb461, _, none⟩) (by first | exact Kd.own_blk (Kd.S_away HO455.out (fun _ hk => hk.2.2)) | (rw [add_block]; exact Kd.own_blk (Kd.S_away HO455.out (fun _ hk => hk.2.2))) | (show (Addr.add _ _).block ≠ _; rw [add_block]; exact Kd.own_blk (Kd.S_away HO455.out (fun _ hk => hk.2.2))) | (dsimp only; exact Kd.own_blk (Kd.S_away HO455.out (fun _ hk => hk.2.2)))) _).trans (((cell_far (p := ⟨gb461, _, none⟩) (by first | exact Kd.own_blk (Kd.S_away HO455.out (fun _ hk => hk.2.2)) | (rw [add_block]; exact Kd.own_blk (Kd.S_away HO455.out (fun _ hk => hk.2.2))) | (show (Addr.add _ _).block ≠ _; rw [add_block]; exact Kd.own_blk (Kd.S_away HO455.out (fun _ hk => hk.2.2))) | (dsimp only; exact Kd.own_blk (Kd.S_away HO455.out (fun _ hk => hk.2.2)))) _).trans (hHeld.2.2.2))))⟩ (fun hHeld => ?_)
  clear hK K
  refine done_ (done_of HT_.out (by kernel_rfl)) ?_
  try go_wp2
  go_meet
  case rel => exact ⟨_, (t463), ((rd_T38 t453 t462).f0), ((rd_T38 t453 t462).f1), (.slice A464_1 ((rd_T38 t453 t462).f1).length c464_1), H', ⟨by first | omega | exact Nat.le_refl _⟩, ⟨Kd.Q_of_R (by (with_reducible repeat (first | apply Kd.R_alloc | apply Kd.R_drewN | apply Kd.R_drew)); exact Kd.R_mono (Kd.R_far (p := ⟨gb461, 1, none⟩) (Kd.R_far (p := ⟨gb461, 0, none⟩) (Kd.R_types HO465.out BK461.out (by decide)) (fun _ hk => by first | exact hk.2 | trivial) (.string ((rd_T38 t453 t462).f0))) (fun _ hk => by first | exact hk.2 | trivial) (.slice A464_1 ((rd_T38 t453 t462).f1).length c464_1)) (fun _ hk => trivial))⟩, ⟨zk BK446⟩, ⟨zp BK461⟩, ⟨zi HI449⟩, ⟨zb HB⟩⟩
 clear HC4
 try clear c1
 try clear c2
 try clear p2
 try clear c4
 try clear p4
 try clear q4
 try clear hx4
 try clear c5
 try clear c10
 try clear c11
 try clear c18
 try clear c19
 try clear c20
 try clear c23
 try clear c23b0
 try clear c23b1
 try clear c25
 try clear c25b0
 try clear c26
 try clear c26b0
 try clear hcz12_0
 try clear hcz12_1
 try clear hcz21_0
 try clear hcz21_1
 try clear hcz22_0
 try clear hcz22_1
 try clear hfz12_0
 try clear hfz12_1
 try clear hfz21_0
 try clear hfz21_1
 try clear hfz22_0
 try clear hfz22_1
 try clear hx464_0
 try clear hx464_1
 try clear p464
 try clear q464
 obtain ⟨kq, x450001_3, x462000_3, x462001_3, u462001, HA, HJ3, HO_462001, BK446, BK461, HI449, HB⟩ := hcut
 cases kq with
 | zero => exact absurd HA.out (by simp [spec_DrawVolOk.j0])
 | succ kj3 =>
  have H := HA.out
  clear HA
  simp only [spec_DrawVolOk.j0] at H
  replace H := obs H
  obtain ⟨⟨t466, t467⟩, A320, H⟩ := H
  replace H : (if t466 = 0 then ((spec_l6Rd_of.f kj3 t447 t467 (([(⟨#[]⟩ : ByteArray), (⟨#[69]⟩ : ByteArray), (⟨#[98]⟩ : ByteArray), (⟨#[65, 66]⟩ : ByteArray)] : List ByteArray))).bind fun bt471 => (some (bt471.1, x462001_3))) else (if t466 = 1 then ((spec_l6Rd_pick.f kj3 t447 t467 (x462001_3.length : Int)).bind fun bt473 => ((spec_l6Rd_pick.f kj3 t447 bt473.2 11).bind fun bt475 => (if 0 ≤ bt473.1 then (if bt473.1 < (x462001_3.length : Int) then (some (x462000_3, (x462001_3.set (bt473.1 : Int).toNat (wrap64 (bt475.1 - 1))))) else (none)) else (none)))) else (if t466 = 2 then (if 1 ≤ (x462001_3.length : Int) then (some (x462000_3, (x462001_3.drop (1 : Int).toNat))) else (none)) else (some (x462000_3, x462001_3))))) = some (r1, r2) := H
  have A32 := am A320
  clear A320
  by_cases c33 : t466 = 0
  · rw [if_pos c33] at H
    have c33b0 : (t466 == 0) = true := beq_iff_eq.mpr c33
    have c33b1 : (t466 != 0) = false := bne_eq_false_iff_eq.mpr c33
    clear c33
    obtain ⟨y468, hy468⟩ : ∃ y_ : List ByteArray, y_ = (([(⟨#[]⟩ : ByteArray), (⟨#[69]⟩ : ByteArray), (⟨#[98]⟩ : ByteArray), (⟨#[65, 66]⟩ : ByteArray)] : List ByteArray)) := ⟨_, rfl⟩
    replace H : ((spec_l6Rd_of.f kj3 t447 t467 y468).bind fun bt471 => (some (bt471.1, x462001_3))) = some (r1, r2) := hY hy468 H
    have Ny468 := am hy468
    clear hy468
    replace H := obs H
    obtain ⟨⟨t471, t472⟩, A340, H⟩ := H
    replace H : (some (t471, x462001_3)) = some (r1, r2) := H
    have A34 := am A340
    clear A340
    simp only [Option.some.injEq, Prod.mk.injEq] at H
    obtain ⟨rfl, rfl⟩ := H
    go_wp2_with (first | ((with_reducible refine gate_callee (f := 51) rfl ?_); refine gl Try.func51 26 #[.pointer (some ⟨g449, 0, none⟩), .int .i64 8] rfl rfl rfl ?_; (with_reducible refine (spec_l6Rd_pick.calls kj3 g449 t447 x450001_3 8 t466 t467 w _ ?side1 ?side2 A32.out).mono ?_); (case side1 => exact zi HI449); (case side2 => exact zb HB); rintro e w35 ⟨rfl, hi, hb, hk⟩; refine ⟨_, rfl, ?_⟩; replace HO_462001 := am (Kd.Q_mono (Kd.Q_keep (IsS93.apartQ (zi HI449) (by (with_reducible repeat (first | apply Kd.Q_alloc | apply Kd.Q_drewN | apply Kd.Q_drew)); exact HO_462001.out) (by decide)) hk (fun _ h => h.2)) (fun _ h => h.1)); replace BK446 := am (KeepBut.blk hk (zk BK446) NB446_449.out (by simp)); replace BK461 := am (KeepBut.blk hk (zk BK461) NB461_449.out (by simp)); replace HB := am (hb); replace HI449 := am (hi); (try clear hb); (try clear hb2); (try clear hk); (try clear hi)) | ((with_reducible refine gate_dst (N := 30) rfl ?_); refine Kd.R_lit Kd.string _ 9 ?hg (N := 30) ?hd (xs := ([(⟨#[]⟩ : ByteArray), (⟨#[69]⟩ : ByteArray), (⟨#[98]⟩ : ByteArray), (⟨#[65, 66]⟩ : ByteArray)] : List ByteArray)) (inner := [.string (⟨#[]⟩ : ByteArray), .string (⟨#[69]⟩ : ByteArray), .string (⟨#[98]⟩ : ByteArray), .string (⟨#[65, 66]⟩ : ByteArray)]) (ok := fun _ => True) (okp := fun _ => True) ?hr ?hp (fun _ hk => hk) trivial (Below.refl _ _) (Nat.le_refl _) (by simp) ?_; (case hd => rfl); (case hg => rfl); (case hr => first | (go_simp; done) | (go_simp; rfl)); (case hp => exact (Reps.one (show Kd.M Kd.string _ _ _ (⟨#[]⟩ : ByteArray) [.string (⟨#[]⟩ : ByteArray)] from rfl) (Reps.one (show Kd.M Kd.string _ _ _ (⟨#[69]⟩ : ByteArray) [.string (⟨#[69]⟩ : ByteArray)] from rfl) (Reps.one (show Kd.M Kd.string _ _ _ (⟨#[98]⟩ : ByteArray) [.string (⟨#[98]⟩ : ByteArray)] from rfl) (Reps.one (show Kd.M Kd.string _ _ _ (⟨#[65, 66]⟩ : ByteArray) [.string (⟨#[65, 66]⟩ : ByteArray)] from rfl) (Reps.none _ _)))))); intro v469 w36 ho37 hb hg_ hnew_; clear hg_ hnew_; (first | rw [← Ny468.out] at ho37 | (simp only [Int.reduceToNat] at ho37; rw [← Ny468.out] at ho37)); replace HO_462001 := am (Kd.Q_below (by (with_reducible repeat (first | apply Kd.Q_alloc | apply Kd.Q_drewN | apply Kd.Q_drew)); exact HO_462001.out) hb); have HO470 := am (Kd.R_lower ho37 (below_size (zb HB))); replace BK446 := am (blk_below (zk BK446) hb); replace BK461 := am (blk_below (zk BK461) hb); replace HI449 := am (IsS93.below (zi HI449) hb); replace HB := am (below_step (zb HB) hb); clear hb ho37; obtain ⟨Ao38, co38, eo38⟩ := Kd.R_slice HO470.out; subst eo38) | ((with_reducible refine gate_callee (f := 52) rfl ?_); refine gl Try.func52 31 #[.pointer (some ⟨g449, 0, none⟩), .slice Ao38 y468.length co38] rfl rfl rfl ?_; (with_reducible refine (spec_l6Rd_of.calls kj3 g449 t447 t467 _ _ y468 t471 t472 w _ ?side1 ?side2 ?side3 ?side4 ?side5 A34.out).mono ?_); (case side1 => exact zi HI449); (case side2 => exact zb HB); (case side3 => exact zc (Kd.R_reads' HO470.out).2.2); (case side4 => exact (Kd.R_reads' HO470.out).2.1); (case side5 => exact far_slice (IsS93.own_ne HI449.out HO470.out (by decide))); rintro e w39 ⟨rfl, hi, hb, hk⟩; refine ⟨_, rfl, ?_⟩; replace HO_462001 := am (Kd.Q_mono (Kd.Q_keep (IsS93.apartQ (zi HI449) (by (with_reducible repeat (first | apply Kd.Q_alloc | apply Kd.Q_drewN | apply Kd.Q_drew)); exact HO_462001.out) (by decide)) hk (fun _ h => h.2)) (fun _ h => h.1)); replace BK446 := am (KeepBut.blk hk (zk BK446) NB446_449.out (by simp)); replace BK461 := am (KeepBut.blk hk (zk BK461) NB461_449.out (by simp)); replace HO470 := am (Kd.R_mono (Kd.R_keep (IsS93.apart (zi HI449) (zr HO470) (by decide)) hk (fun _ h => h.2)) (fun _ h => h.1)); replace HB := am (hb); replace HI449 := am (hi); (try clear hb); (try clear hb2); (try clear hk); (try clear hi); have hnb40 := NB461_446.out; have hnc40 := NB446_461.out; have hnb41 := NB461_449.out; have hnc41 := NB449_461.out; have hcz42_0 := ce0 BK461; have hcz42_1 := ce1 BK461; have hfz42_0 := bfz BK461 0; have hfz42_1 := bfz BK461 1; have hnb43 := NB446_449.out; have hnc43 := NB449_446.out; have hcz44_0 := ce0 BK446; have hcz44_1 := ce1 BK446; have hfz44_0 := bfz BK446 0; have hfz44_1 := bfz BK446 1; obtain ⟨Ao45, co45, eo45, _⟩ := Kd.Q_slice HO_462001.out; subst eo45))
    refine bodyPost_ret (results_cell_row rfl _ _ gb446 38 #[.string t471, .slice Ao45 x462001_3.length co45] (0, 0) _ rfl (zp BK446) Try.underlying38 rfl (by kernel_rfl)) rfl ?_
    exact ⟨_, zw, by (with_reducible repeat (first | apply Kd.Q_alloc | apply Kd.Q_drewN | apply Kd.Q_drew)); exact Kd.Q_mono (Kd.Q_far (p := ⟨gb446, 1, none⟩) (Kd.Q_far (p := ⟨gb446, 0, none⟩) (Kd.Q_far (p := ⟨gb461, 0, none⟩) (Kd.Q_types (Kd.Q_types HO_462001.out BK461.out (by decide)) BK446.out (by decide)) (fun _ hk => hk.1.2) (.string t471)) (fun _ hk => hk.2) (.string t471)) (fun _ hk => hk.2) (.slice Ao45 x462001_3.length co45)) (fun _ hk => trivial), (zb HB)⟩
  rw [if_neg c33] at H
  have c33b0 : (t466 == 0) = false := beq_eq_false_iff_ne.mpr c33
  have c33b1 : (t466 != 0) = true := bne_iff_ne.mpr c33
  by_cases c46 : t466 = 1
  rotate_left
  · rw [if_neg c46] at H
    have c46b0 : (t466 == 1) = false := beq_eq_false_iff_ne.mpr c46
    have c46b1 : (t466 != 1) = true := bne_iff_ne.mpr c46
    by_cases c64 : t466 = 2
    rotate_left
    · rw [if_neg c64] at H
      have c64b0 : (t466 == 2) = false := beq_eq_false_iff_ne.mpr c64
      have c64b1 : (t466 != 2) = true := bne_iff_ne.mpr c64
      simp only [Option.some.injEq, Prod.mk.injEq] at H
      obtain ⟨rfl, rfl⟩ := H
      go_wp2_with (first | ((with_reducible refine gate_callee (f := 51) rfl ?_); refine gl Try.func51 26 #[.pointer (some ⟨g449, 0, none⟩), .int .i64 8] rfl rfl rfl ?_; (with_reducible refine (spec_l6Rd_pick.calls kj3 g449 t447 x450001_3 8 t466 t467 w _ ?side1 ?side2 A32.out).mono ?_); (case side1 => exact zi HI449); (case side2 => exact zb HB); rintro e w74 ⟨rfl, hi, hb, hk⟩; refine ⟨_, rfl, ?_⟩; replace HO_462001 := am (Kd.Q_mono (Kd.Q_keep (IsS93.apartQ (zi HI449) (by (with_reducible repeat (first | apply Kd.Q_alloc | apply Kd.Q_drewN | apply Kd.Q_drew)); exact HO_462001.out) (by decide)) hk (fun _ h => h.2)) (fun _ h => h.1)); replace BK446 := am (KeepBut.blk hk (zk BK446) NB446_449.out (by simp)); replace BK461 := am (KeepBut.blk hk (zk BK461) NB461_449.out (by simp)); replace HB := am (hb); replace HI449 := am (hi); (try clear hb); (try clear hb2); (try clear hk); (try clear hi); have hnb75 := NB461_446.out; have hnc75 := NB446_461.out; have hnb76 := NB461_449.out; have hnc76 := NB449_461.out; have hcz77_0 := ce0 BK461; have hcz77_1 := ce1 BK461; have hfz77_0 := bfz BK461 0; have hfz77_1 := bfz BK461 1; have hnb78 := NB446_449.out; have hnc78 := NB449_446.out; have hcz79_0 := ce0 BK446; have hcz79_1 := ce1 BK446; have hfz79_0 := bfz BK446 0; have hfz79_1 := bfz BK446 1; obtain ⟨Ao80, co80, eo80, _⟩ := Kd.Q_slice HO_462001.out; subst eo80))
      refine bodyPost_ret (results_cell_row rfl _ _ gb446 38 #[.string x462000_3, .slice Ao80 x462001_3.length co80] (0, 0) _ rfl (zp BK446) Try.underlying38 rfl (by kernel_rfl)) rfl ?_
      exact ⟨_, zw, by (with_reducible repeat (first | apply Kd.Q_alloc | apply Kd.Q_drewN | apply Kd.Q_drew)); exact Kd.Q_mono (Kd.Q_far (p := ⟨gb446, 1, none⟩) (Kd.Q_far (p := ⟨gb446, 0, none⟩) (Kd.Q_types HO_462001.out BK446.out (by decide)) (fun _ hk => hk.2) (.string x462000_3)) (fun _ hk => hk.2) (.slice Ao80 x462001_3.length co80)) (fun _ hk => trivial), (zb HB)⟩
    rw [if_pos c64] at H
    have c64b0 : (t466 == 2) = true := beq_iff_eq.mpr c64
    have c64b1 : (t466 != 2) = false := bne_eq_false_iff_eq.mpr c64
    clear c64
    by_cases c65 : 1 ≤ (x462001_3.length : Int)
    rotate_left
    · rw [if_neg c65] at H
      exact absurd H (by simp)
    rw [if_pos c65] at H
    have c65b0 := eq_true c65
    have c65b1 : decide (1 ≤ (x462001_3.length : Int)) = true := decide_eq_true c65
    clear c65
    obtain ⟨y478, hy478⟩ : ∃ y_ : List Int, y_ = (x462001_3.drop (1 : Int).toNat) := ⟨_, rfl⟩
    replace H : (some (x462000_3, y478)) = some (r1, r2) := hY hy478 H
    have Ny478 := am hy478
    clear hy478
    simp only [Option.some.injEq, Prod.mk.injEq] at H
    obtain ⟨rfl, rfl⟩ := H
    go_wp2_with (first | ((with_reducible refine gate_callee (f := 51) rfl ?_); refine gl Try.func51 26 #[.pointer (some ⟨g449, 0, none⟩), .int .i64 8] rfl rfl rfl ?_; (with_reducible refine (spec_l6Rd_pick.calls kj3 g449 t447 x450001_3 8 t466 t467 w _ ?side1 ?side2 A32.out).mono ?_); (case side1 => exact zi HI449); (case side2 => exact zb HB); rintro e w66 ⟨rfl, hi, hb, hk⟩; refine ⟨_, rfl, ?_⟩; replace HO_462001 := am (Kd.Q_mono (Kd.Q_keep (IsS93.apartQ (zi HI449) (by (with_reducible repeat (first | apply Kd.Q_alloc | apply Kd.Q_drewN | apply Kd.Q_drew)); exact HO_462001.out) (by decide)) hk (fun _ h => h.2)) (fun _ h => h.1)); replace BK446 := am (KeepBut.blk hk (zk BK446) NB446_449.out (by simp)); replace BK461 := am (KeepBut.blk hk (zk BK461) NB461_449.out (by simp)); replace HB := am (hb); replace HI449 := am (hi); (try clear hb); (try clear hb2); (try clear hk); (try clear hi); have hnb67 := NB461_446.out; have hnc67 := NB446_461.out; have hnb68 := NB461_449.out; have hnc68 := NB449_461.out; have hcz69_0 := ce0 BK461; have hcz69_1 := ce1 BK461; have hfz69_0 := bfz BK461 0; have hfz69_1 := bfz BK461 1; obtain ⟨Ao70, co70, eo70, _⟩ := Kd.Q_slice HO_462001.out; subst eo70; have q71 : (1 : Int) ≤ ((x462001_3.length : Int) : Int) := of_decide_eq_true zl; obtain ⟨i071, hi071, _, hsz71, _⟩ := info_parts info3; have hcut71 := cut_from (P := Try.prog) 36 3 .i64 Try.underlying36 hi071 1 hsz71 Ao70 x462001_3.length co70 1 (by omega) q71; have hr71 := Kd.Q_drop (k := (1 : Int).toNat) HO_462001.out (by omega); obtain ⟨A71, hA71⟩ : ∃ A1, A1 = (if co70 = (1 : Int).toNat then Ao70 else (Ao70 : Option Addr).map (·.add ((1 : Int).toNat * 1))) := ⟨_, rfl⟩; obtain ⟨c71, hc71⟩ : ∃ c1, c1 = co70 - (1 : Int).toNat := ⟨_, rfl⟩; have hy71 : y478.length = x462001_3.length - (1 : Int).toNat := (by rw [Ny478.out, List.length_drop]); rw [← Ny478.out] at hr71; rw [← hy71, ← hA71, ← hc71] at hcut71; replace hr71 : Kd.Q (Kd.int .i64) 3 w66 w.heap.size (fun _ => True) (.slice A71 y478.length c71) y478 := (by rw [hA71, hc71, hy71]; exact hr71); have HE71 : Aside0 ((Value.slice A71 y478.length c71).ownBlock = (.slice Ao70 x462001_3.length co70 : Value).ownBlock) := ⟨by rw [hA71]; split <;> (cases (Ao70 : Option Addr) <;> rfl)⟩; clear hy71 hi071 hsz71 HO_462001 hA71 hc71; have HO480 := am hr71; clear hr71; replace q71 := eq_true q71; have hnb72 := NB446_449.out; have hnc72 := NB449_446.out; have hcz73_0 := ce0 BK446; have hcz73_1 := ce1 BK446; have hfz73_0 := bfz BK446 0; have hfz73_1 := bfz BK446 1))
    refine bodyPost_ret (results_cell_row rfl _ _ gb446 38 #[.string x462000_3, .slice A71 y478.length c71] (0, 0) _ rfl (zp BK446) Try.underlying38 rfl (by kernel_rfl)) rfl ?_
    exact ⟨_, zw, by (with_reducible repeat (first | apply Kd.Q_alloc | apply Kd.Q_drewN | apply Kd.Q_drew)); exact Kd.Q_mono (Kd.Q_far (p := ⟨gb446, 1, none⟩) (Kd.Q_far (p := ⟨gb446, 0, none⟩) (Kd.Q_far (p := ⟨gb461, 1, none⟩) (Kd.Q_types (Kd.Q_types HO480.out BK461.out (by decide)) BK446.out (by decide)) (fun _ hk => hk.1.2) (.slice A71 y478.length c71)) (fun _ hk => hk.2) (.string x462000_3)) (fun _ hk => hk.2) (.slice A71 y478.length c71)) (fun _ hk => trivial), (zb HB)⟩
  rw [if_pos c46] at H
  have c46b0 : (t466 == 1) = true := beq_iff_eq.mpr c46
  have c46b1 : (t466 != 1) = false := bne_eq_false_iff_eq.mpr c46
  clear c46
  replace H := obs H
  obtain ⟨⟨t473, t474⟩, A470, H⟩ := H
  replace H : ((spec_l6Rd_pick.f kj3 t447 t474 11).bind fun bt475 => (if 0 ≤ t473 then (if t473 < (x462001_3.length : Int) then (some (x462000_3, (x462001_3.set (t473 : Int).toNat (wrap64 (bt475.1 - 1))))) else (none)) else (none))) = some (r1, r2) := H
  have A47 := am A470
  clear A470
  replace H := obs H
  obtain ⟨⟨t475, t476⟩, A480, H⟩ := H
  replace H : (if 0 ≤ t473 then (if t473 < (x462001_3.length : Int) then (some (x462000_3, (x462001_3.set (t473 : Int).toNat (wrap64 (t475 - 1))))) else (none)) else (none)) = some (r1, r2) := H
  have A48 := am A480
  clear A480
  by_cases c49 : 0 ≤ t473
  rotate_left
  · rw [if_neg c49] at H
    exact absurd H (by simp)
  rw [if_pos c49] at H
  have c49b0 : decide (0 ≤ t473) = true := decide_eq_true c49
  clear c49
  by_cases c50 : t473 < (x462001_3.length : Int)
  rotate_left
  · rw [if_neg c50] at H
    exact absurd H (by simp)
  rw [if_pos c50] at H
  have c50b0 : decide (t473 < (x462001_3.length : Int)) = true := decide_eq_true c50
  clear c50
  obtain ⟨y477, hy477⟩ : ∃ y_ : List Int, y_ = (x462001_3.set (t473 : Int).toNat (wrap64 (t475 - 1))) := ⟨_, rfl⟩
  replace H : (some (x462000_3, y477)) = some (r1, r2) := hY hy477 H
  have Ny477 := am hy477
  clear hy477
  simp only [Option.some.injEq, Prod.mk.injEq] at H
  obtain ⟨rfl, rfl⟩ := H
  try go_wp2_with (first | ((with_reducible refine gate_callee (f := 51) rfl ?_); refine gl Try.func51 26 #[.pointer (some ⟨g449, 0, none⟩), .int .i64 8] rfl rfl rfl ?_; (with_reducible refine (spec_l6Rd_pick.calls kj3 g449 t447 x450001_3 8 t466 t467 w _ ?side1 ?side2 A32.out).mono ?_); (case side1 => exact zi HI449); (case side2 => exact zb HB); rintro e w52 ⟨rfl, hi, hb, hk⟩; refine ⟨_, rfl, ?_⟩; replace HO_462001 := am (Kd.Q_mono (Kd.Q_keep (IsS93.apartQ (zi HI449) (by (with_reducible repeat (first | apply Kd.Q_alloc | apply Kd.Q_drewN | apply Kd.Q_drew)); exact HO_462001.out) (by decide)) hk (fun _ h => h.2)) (fun _ h => h.1)); replace BK446 := am (KeepBut.blk hk (zk BK446) NB446_449.out (by simp)); replace BK461 := am (KeepBut.blk hk (zk BK461) NB461_449.out (by simp)); replace HB := am (hb); replace HI449 := am (hi); (try clear hb); (try clear hb2); (try clear hk); (try clear hi)))
  replace HO_462001 := am (Kd.Q_drew HO_462001.out)
  replace BK446 := am (blk_drew BK446.out)
  replace BK461 := am (blk_drew BK461.out)
  replace HI449 := am (IsS93.drew HI449.out)
  replace HB := am (below_drew1 HB.out)
  obtain ⟨Ao54, co54, eo54, _⟩ := Kd.Q_slice HO_462001.out
  (first | subst eo54 | (injection eo54 with f1_ f2_ f3_; have f4_ := f1_.symm; have f5_ := f3_.symm; clear f1_ f2_ f3_; subst f4_; subst f5_))
  refine start_ (n := 12) (S := fun w' => w'.cell? ⟨gb461, 0, none⟩ = some (.string x462000_3) ∧ w'.cell? ⟨gb461, 1, none⟩ = some (.slice Ao54 x462001_3.length co54)) (ds := [11]) (bs 12 0) (by kernel_rfl) rfl rfl ⟨ce0 BK461, ce1 BK461⟩ (fun hHeld => ?_); refine with_tabW spec_DrawVolOk.tab10 spec_DrawVolOk.bits10 (fun HT_ HW_ => ?_)
  generalize w52.drew = w53 at HO_462001 BK446 BK461 HI449 HB hHeld ⊢
  refine pu 0 35 12 1 rfl rfl ?_
  refine pu 2 37 12 5 rfl rfl ?_
  refine pu 3 38 12 13 rfl rfl ?_
  refine pu 7 42 12 141 rfl rfl ?_
  refine ta2 1 36 12 143 rfl rfl hHeld ?_
  refine ta2 4 39 12 159 rfl rfl hHeld ?_
  refine pu 5 40 12 191 rfl rfl ?_
  refine oz 6 12 255 rfl rfl (fun K hK => ?_)
  refine gs Try.func51 #[.pointer (some ⟨g449, 0, none⟩), .int .i64 (x462001_3.length : Int)] rfl rfl ?_
  with_reducible refine (spec_l6Rd_pick.calls kj3 g449 t447 t467 (x462001_3.length : Int) t473 t474 w _ ?side1 ?side2 A47.out).mono ?_
  (case side1 => exact zi HI449)
  (case side2 => exact zb HB)
  rintro e w55 ⟨rfl, hi, hb, hk⟩
  refine ⟨_, rfl, ?_⟩
  replace HO_462001 := am (Kd.Q_mono (Kd.Q_keep (IsS93.apartQ (zi HI449) (by (with_reducible repeat (first | apply Kd.Q_alloc | apply Kd.Q_drewN | apply Kd.Q_drew)); exact HO_462001.out) (by decide)) hk (fun _ h => h.2)) (fun _ h => h.1))
  replace BK446 := am (KeepBut.blk hk (zk BK446) NB446_449.out (by simp))
  replace BK461 := am (KeepBut.blk hk (zk BK461) NB461_449.out (by simp))
  replace HB := am (hb)
  replace HI449 := am (hi)
  (try clear hb)
  (try clear hb2)
  (try clear hk)
  (try clear hi)
  refine hK.out _ _ ⟨ce0 BK461, ce1 BK461⟩ (fun hHeld => ?_)
  clear hK K
  refine norm_ (a' := ?_) ?_ ?_
  rotate_left
  · show Act.put _ (some 41) _ = _
    simp only [Act.put, List.setIfInBounds_toArray, List.set_cons_zero, List.set_cons_succ, i64_w, i32_w]
    rfl
  refine oz 8 12 511 rfl rfl (fun K hK => ?_)
  refine gs Try.func51 #[.pointer (some ⟨g449, 0, none⟩), .int .i64 11] rfl rfl ?_
  with_reducible refine (spec_l6Rd_pick.calls kj3 g449 t447 t474 11 t475 t476 w _ ?side1 ?side2 A48.out).mono ?_
  (case side1 => exact zi HI449)
  (case side2 => exact zb HB)
  rintro e w56 ⟨rfl, hi, hb, hk⟩
  refine ⟨_, rfl, ?_⟩
  replace HO_462001 := am (Kd.Q_mono (Kd.Q_keep (IsS93.apartQ (zi HI449) (by (with_reducible repeat (first | apply Kd.Q_alloc | apply Kd.Q_drewN | apply Kd.Q_drew)); exact HO_462001.out) (by decide)) hk (fun _ h => h.2)) (fun _ h => h.1))
  replace BK446 := am (KeepBut.blk hk (zk BK446) NB446_449.out (by simp))
  replace BK461 := am (KeepBut.blk hk (zk BK461) NB461_449.out (by simp))
  replace HB := am (hb)
  replace HI449 := am (hi)
  (try clear hb)
  (try clear hb2)
  (try clear hk)
  (try clear hi)
  have p51 : 0 ≤ (t473 : Int) := of_decide_eq_true zl
  have q51 : (t473 : Int) < ((x462001_3.length : Int) : Int) := of_decide_eq_true zl
  obtain ⟨go51, oo51, co51, eo51, gb51, gl51, cl51, HG51⟩ := Kd.Q_form HO_462001.out (by omega)
  (first | cases eo51 | (injection eo51 with ea_ en_ ec_; (first | subst ea_ | (injection ea_ with ea_; subst ea_)); subst ec_; clear en_))
  have GB51 := am gb51
  have GG51 := am HG51
  clear gb51 gl51 HG51
  obtain ⟨hx51_0, hf51_0⟩ := Kd.Q_cell 0 HO_462001.out (t473 : Int) p51 q51
  replace p51 := eq_true p51
  replace q51 := eq_true q51
  have HN449_go51 := am (show g449 ≠ go51 from by have h_ := IsS93.own_neQ HI449.out HO_462001.out (by decide); intro e_; exact h_ (by rw [e_]; rfl))
  have HP57 := (Kd.Q_putg HO_462001.out (t473 : Int) (of_decide_eq_true zl) (by have h_ : (t473 : Int) < ((x462001_3.length : Int) : Int) := of_decide_eq_true zl; first | exact h_ | (have e_ := (Kd.Q_reads' HO_462001.out).1; omega) | simpa using h_) (wrap64 (t475 - 1))).1
  rw [← Ny477.out] at HP57
  have HQ57 := am HP57
  clear HP57
  refine hK.out _ _ ⟨ce0 BK461, ce1 BK461⟩ (fun hHeld => ?_)
  clear hK K
  refine norm_ (a' := ?_) ?_ ?_
  rotate_left
  · show Act.put _ (some 43) _ = _
    simp only [Act.put, List.setIfInBounds_toArray, List.set_cons_zero, List.set_cons_succ, i64_w, i32_w]
    rfl
  refine pu 9 44 12 1023 rfl rfl ?_
  refine pu 10 45 12 2047 rfl rfl ?_
  refine la 11 12 4095 rfl rfl (fun K hK => ?_)
  refine skip_ (w1 := ?_) (by rfl) rfl ?_ ?_
  rotate_left
  · go_simp
    rfl
  refine hK.out _ _ ?_
  clear hK K
  refine done_ (done_of HT_.out (by kernel_rfl)) ?_
  have n0_ : Aside0 (Kd.Q (Kd.int .i64) 3 (w56.setCell ⟨go51, oo51 + (t473 : Int).toNat, none⟩ (.int .i64 (wrap64 (t475 - 1)))) w.heap.size (fun _ => True) (.slice (some ⟨go51, oo51, none⟩) x462001_3.length co54) y477) := ⟨by (with_reducible repeat (first | apply Kd.Q_alloc | apply Kd.Q_drewN | apply Kd.Q_drew)); exact HQ57.out⟩
  have n1_ : Aside0 ((w56.setCell ⟨go51, oo51 + (t473 : Int).toNat, none⟩ (.int .i64 (wrap64 (t475 - 1)))).heap[gb446]? = some (.cells #[.string (⟨#[]⟩ : ByteArray), .slice none 0 0] 38 (0, 0))) := ⟨by (with_reducible repeat (first | refine blk_drewN ?_ _ | refine blk_drew ?_ | refine blk_alloc ?_ _)); refine blk_far ?_ (by have h_ := Kd.Q_ne HO_462001.out BK446.out (by decide); intro e_; exact h_ (by rw [e_]; rfl)) _; (with_reducible repeat (first | refine blk_drewN ?_ _ | refine blk_drew ?_ | refine blk_alloc ?_ _)); exact BK446.out⟩
  have n2_ : Aside0 ((w56.setCell ⟨go51, oo51 + (t473 : Int).toNat, none⟩ (.int .i64 (wrap64 (t475 - 1)))).heap[gb461]? = some (.cells #[.string x462000_3, .slice (some ⟨go51, oo51, none⟩) x462001_3.length co54] 38 (0, 0))) := ⟨by (with_reducible repeat (first | refine blk_drewN ?_ _ | refine blk_drew ?_ | refine blk_alloc ?_ _)); refine blk_far ?_ (by have h_ := Kd.Q_ne HO_462001.out BK461.out (by decide); intro e_; exact h_ (by rw [e_]; rfl)) _; (with_reducible repeat (first | refine blk_drewN ?_ _ | refine blk_drew ?_ | refine blk_alloc ?_ _)); exact BK461.out⟩
  have n3_ : Aside0 (IsS93 w (w56.setCell ⟨go51, oo51 + (t473 : Int).toNat, none⟩ (.int .i64 (wrap64 (t475 - 1)))) g449 t447 t476) := ⟨zi HI449⟩
  have n4_ : Aside0 (Below w.heap.size w (w56.setCell ⟨go51, oo51 + (t473 : Int).toNat, none⟩ (.int .i64 (wrap64 (t475 - 1))))) := ⟨zb HB⟩
  (try clear HO_462001)
  (try clear BK446)
  (try clear BK461)
  (try clear HI449)
  (try clear HB)
  generalize (w56.setCell ⟨go51, oo51 + (t473 : Int).toNat, none⟩ (.int .i64 (wrap64 (t475 - 1)))) = w58 at n0_ n1_ n2_ n3_ n4_ ⊢
  have HO_462001 := n0_
  have BK446 := n1_
  have BK461 := n2_
  have HI449 := n3_
  have HB := n4_
  clear n0_ n1_ n2_ n3_ n4_
  have hnb59 := NB461_446.out
  have hnc59 := NB446_461.out
  have hnb60 := NB461_449.out
  have hnc60 := NB449_461.out
  have hcz61_0 := ce0 BK461
  have hcz61_1 := ce1 BK461
  have hfz61_0 := bfz BK461 0
  have hfz61_1 := bfz BK461 1
  have hnb62 := NB446_449.out
  have hnc62 := NB449_446.out
  have hcz63_0 := ce0 BK446
  have hcz63_1 := ce1 BK446
  have hfz63_0 := bfz BK446 0
  have hfz63_1 := bfz BK446 1
  try go_wp2
  refine bodyPost_ret (results_cell_row rfl _ _ gb446 38 #[.string x462000_3, .slice (some ⟨go51, oo51, none⟩) x462001_3.length co54] (0, 0) _ rfl (zp BK446) Try.underlying38 rfl (by kernel_rfl)) rfl ?_
  exact ⟨_, zw, by (with_reducible repeat (first | apply Kd.Q_alloc | apply Kd.Q_drewN | apply Kd.Q_drew)); exact Kd.Q_mono (Kd.Q_far (p := ⟨gb446, 1, none⟩) (Kd.Q_far (p := ⟨gb446, 0, none⟩) (Kd.Q_types HO_462001.out BK446.out (by decide)) (fun _ hk => hk.2) (.string x462000_3)) (fun _ hk => hk.2) (.slice (some ⟨go51, oo51, none⟩) x462001_3.length co54)) (fun _ hk => trivial), (zb HB)⟩
end Go.Proofs.Ytooamacekmjpaaa.PFnVolCount
