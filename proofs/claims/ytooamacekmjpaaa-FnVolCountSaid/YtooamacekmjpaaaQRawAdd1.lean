/- The walk: each function that the law comes to as a plain Lean function, and a proof that the Go code answers so. Written by this session's program over the kit's printer. -/
import Derived.Test.YtooamacekmjpaaaZ
import Derived.Test.YtooamacekmjpaaaQRawAdd0
namespace Go.Proofs.Ytooamacekmjpaaa.PRawAdd
open Go.RowKit Go.Proofs.YtooamacekmjpaaaW.PrintWords Go.Proofs.YtooamacekmjpaaaW.PrintLast Go.Proofs.YtooamacekmjpaaaW.PrintMore
attribute [local go_sem] max2_int min2_int max_two min_two max_three min_three max_four min_four   -- for this text's walks alone
set_option linter.unusedVariables false
set_option linter.unusedSimpArgs false
/-! ### spec_l11Add: function 95 -/
def spec_l11Add.l0 : Nat → List (S38) → Bool → Int → RawHd → List (S38) → ByteArray → RawHd → Option (RawHd × (List (S38)))
 | 0, _, _, _, _, _, _, _ => none
 | k + 1, x5, x6, x7, x102000, x102001, x103000, x103001 => if x7 < (x102001.length : Int) then (if x6 = true then (if 0 ≤ x7 then (if x5.length < 3518437208883 then (spec_l11Add.l0 k (x5 ++ [(⟨(rd_T38 x102001 x7).f0, (rd_T38 x102001 x7).f1⟩ : S38)]) x6 (wrap64 (x7 + 1)) x102000 x102001 x103000 x103001) else (none)) else (none)) else (if 0 ≤ x7 then (if (Op.bytesLess x103000.toList (((rd_T38 x102001 x7).f0).toList)) = true then (if x5.length < 3518437208883 then ((some (x5 ++ [(⟨x103000, x103001⟩ : S38)] : List (S38))).bind fun y112 => (if y112.length < 3518437208883 then (spec_l11Add.l0 k (y112 ++ [(⟨(rd_T38 x102001 x7).f0, (rd_T38 x102001 x7).f1⟩ : S38)]) true (wrap64 (x7 + 1)) x102000 x102001 x103000 x103001) else (none))) else (none)) else (if x5.length < 3518437208883 then (spec_l11Add.l0 k (x5 ++ [(⟨(rd_T38 x102001 x7).f0, (rd_T38 x102001 x7).f1⟩ : S38)]) x6 (wrap64 (x7 + 1)) x102000 x102001 x103000 x103001) else (none))) else (none))) else (if x6 = true then (some (x102000, x5)) else (if x5.length < 3518437208883 then (some (x102000, (x5 ++ [(⟨x103000, x103001⟩ : S38)]))) else (none)))
def spec_l11Add.f (k : Nat) (a0_0 : RawHd) (l0_1 : List (S38)) (a1_0 : ByteArray) (a1_1 : RawHd) : Option (RawHd × (List (S38))) := spec_l11Add.l0 k (([] : List (S38))) false 0 a0_0 l0_1 a1_0 a1_1
theorem spec_l11Add.mono_l : ∀ k, (∀ y0 y1 y2 y3 y4 y5 y6, LeO (spec_l11Add.l0 k y0 y1 y2 y3 y4 y5 y6) (spec_l11Add.l0 (k + 1) y0 y1 y2 y3 y4 y5 y6))
 | 0 => fun _ _ _ _ _ _ _ r h => by simp [spec_l11Add.l0] at h
 | k + 1 => by
  have ih0 := spec_l11Add.mono_l k
  intro y0 y1 y2 y3 y4 y5 y6
  unfold spec_l11Add.l0
  exact mo1 ih0
theorem spec_l11Add.mono : ∀ a0 a1 a2 a3 k, LeO (spec_l11Add.f k a0 a1 a2 a3) (spec_l11Add.f (k + 1) a0 a1 a2 a3) := by
 intro a0 a1 a2 a3 k
 have ih0 := spec_l11Add.mono_l k
 unfold spec_l11Add.f
 exact mo1 ih0
set_option maxHeartbeats 8000000 in
set_option maxRecDepth 100000 in
theorem spec_l11Add.calls (k : Nat) (a0_0 : RawHd) (A0_1 : Option Addr) (c0_1 : Nat) (l0_1 : List (S38)) (a1_0 : ByteArray) (a1_1 : RawHd) (r1 : RawHd) (r2 : List (S38)) (w : World) (hr0_1 : Kd.C k38 w A0_1 l0_1.length l0_1) (hc0_1 : l0_1.length ≤ c0_1) (h : spec_l11Add.f k a0_0 l0_1 a1_0 a1_1 = some (r1, r2)) :
 Calls Try.prog 95 #[.agg #[rawv a0_0, .slice A0_1 l0_1.length c0_1], .agg #[.string a1_0, rawv a1_1]] w fun e w' => ∃ v1_ : Value, e = .returned (.agg #[rawv r1, v1_]) ∧ Kd.R k38 38 w' w.heap.size (fun _ => True) v1_ r2 ∧ Below w.heap.size w w' := by
 have hu31 := Try.underlying31
 have hu38 := Try.underlying38
 have HR0_1 := am hr0_1
 have HC0_1 := am hc0_1
 clear hr0_1 hc0_1
 have HB := am (Below.refl w.heap.size w)
 have H : (spec_l11Add.l0 k (([] : List (S38))) false 0 a0_0 l0_1 a1_0 a1_1) = some (r1, r2) := h
 clear h
 obtain ⟨y104, hy104⟩ : ∃ y_ : List (S38), y_ = (([] : List (S38))) := ⟨_, rfl⟩
 replace H : (spec_l11Add.l0 k y104 false 0 a0_0 l0_1 a1_0 a1_1) = some (r1, r2) := hY hy104 H
 have Ny104 := am hy104
 clear hy104
 have H' := am H
 clear H
 go_enter Try.func95, Try.ntmps95
 go_wp2_with (first | ((with_reducible refine gate_dst (N := 2) rfl ?_); refine bx 31 #[rawv a0_0, .slice A0_1 l0_1.length c0_1] ?_; intro gb101 hg w3 hbox hb; have BK101 := am (hbox); have GW101 := am (zn hg (zb HB)); have GE101 := am (zn hg (zb HB)); replace HB := am (below_step (zb HB) hb); clear hb hbox hg) | ((with_reducible refine gate_dst (N := 3) rfl ?_); refine bx 38 #[.string a1_0, rawv a1_1] ?_; intro gb102 hg w4 hbox hb; have BK102 := am (hbox); have GW102 := am (zn hg (zb HB)); have GE102 := am (zn hg (zb HB)); replace HB := am (below_step (zb HB) hb); have NB101_102 := am (zx hg (zk BK101)); have NB102_101 := am (zy hg (zk BK101)); replace BK101 := am (blk_below (zk BK101) hb); clear hb hbox hg) | ((with_reducible refine gate_dst (N := 4) rfl ?_); refine bx 31 #[rawv rawz, .slice none 0 0] ?_; intro gb103 hg w5 hbox hb; have BK103 := am (hbox); have GW103 := am (zn hg (zb HB)); have GE103 := am (zn hg (zb HB)); replace HB := am (below_step (zb HB) hb); have NB101_103 := am (zx hg (zk BK101)); have NB103_101 := am (zy hg (zk BK101)); replace BK101 := am (blk_below (zk BK101) hb); have NB102_103 := am (zx hg (zk BK102)); have NB103_102 := am (zy hg (zk BK102)); replace BK102 := am (blk_below (zk BK102) hb); clear hb hbox hg) | ((with_reducible refine gate_dst (N := 8) rfl ?_); refine Kd.R_lit k38 _ 38 ?hg (N := 8) ?hd (xs := ([] : List (S38))) (inner := []) (ok := fun _ => True) (okp := fun _ => True) ?hr ?hp (fun _ hk => hk) trivial (Below.refl _ _) (Nat.le_refl _) (by simp) ?_; (case hd => rfl); (case hg => rfl); (case hr => first | (go_simp; done) | (go_simp; rfl)); (case hp => exact (Reps.none _ _)); intro v105 w6 ho7 hb hg_ hnew_; clear hg_ hnew_; (first | rw [← Ny104.out] at ho7 | (simp only [Int.reduceToNat] at ho7; rw [← Ny104.out] at ho7)); have HO106 := am (Kd.R_lower (Kd.R_newB ho7 (g := gb102) (o := .cells #[.string a1_0, rawv a1_1] 38 (0, 0)) (zk BK102)) (below_size (zb HB))); replace BK101 := am (blk_below (zk BK101) hb); replace BK102 := am (blk_below (zk BK102) hb); replace BK103 := am (blk_below (zk BK103) hb); replace HB := am (below_step (zb HB) hb); clear hb ho7))
 repeat (go_quiet (first | ((with_reducible refine gate_dst (N := 2) rfl ?_); refine bx 31 #[rawv a0_0, .slice A0_1 l0_1.length c0_1] ?_; intro gb101 hg w3 hbox hb; have BK101 := am (hbox); have GW101 := am (zn hg (zb HB)); have GE101 := am (zn hg (zb HB)); replace HB := am (below_step (zb HB) hb); clear hb hbox hg) | ((with_reducible refine gate_dst (N := 3) rfl ?_); refine bx 38 #[.string a1_0, rawv a1_1] ?_; intro gb102 hg w4 hbox hb; have BK102 := am (hbox); have GW102 := am (zn hg (zb HB)); have GE102 := am (zn hg (zb HB)); replace HB := am (below_step (zb HB) hb); have NB101_102 := am (zx hg (zk BK101)); have NB102_101 := am (zy hg (zk BK101)); replace BK101 := am (blk_below (zk BK101) hb); clear hb hbox hg) | ((with_reducible refine gate_dst (N := 4) rfl ?_); refine bx 31 #[rawv rawz, .slice none 0 0] ?_; intro gb103 hg w5 hbox hb; have BK103 := am (hbox); have GW103 := am (zn hg (zb HB)); have GE103 := am (zn hg (zb HB)); replace HB := am (below_step (zb HB) hb); have NB101_103 := am (zx hg (zk BK101)); have NB103_101 := am (zy hg (zk BK101)); replace BK101 := am (blk_below (zk BK101) hb); have NB102_103 := am (zx hg (zk BK102)); have NB103_102 := am (zy hg (zk BK102)); replace BK102 := am (blk_below (zk BK102) hb); clear hb hbox hg) | ((with_reducible refine gate_dst (N := 8) rfl ?_); refine Kd.R_lit k38 _ 38 ?hg (N := 8) ?hd (xs := ([] : List (S38))) (inner := []) (ok := fun _ => True) (okp := fun _ => True) ?hr ?hp (fun _ hk => hk) trivial (Below.refl _ _) (Nat.le_refl _) (by simp) ?_; (case hd => rfl); (case hg => rfl); (case hr => first | (go_simp; done) | (go_simp; rfl)); (case hp => exact (Reps.none _ _)); intro v105 w6 ho7 hb hg_ hnew_; clear hg_ hnew_; (first | rw [← Ny104.out] at ho7 | (simp only [Int.reduceToNat] at ho7; rw [← Ny104.out] at ho7)); have HO106 := am (Kd.R_lower (Kd.R_newB ho7 (g := gb102) (o := .cells #[.string a1_0, rawv a1_1] 38 (0, 0)) (zk BK102)) (below_size (zb HB))); replace BK101 := am (blk_below (zk BK101) hb); replace BK102 := am (blk_below (zk BK102) hb); replace BK103 := am (blk_below (zk BK103) hb); replace HB := am (below_step (zb HB) hb); clear hb ho7)); try go_wp2_with (first | ((with_reducible refine gate_dst (N := 2) rfl ?_); refine bx 31 #[rawv a0_0, .slice A0_1 l0_1.length c0_1] ?_; intro gb101 hg w3 hbox hb; have BK101 := am (hbox); have GW101 := am (zn hg (zb HB)); have GE101 := am (zn hg (zb HB)); replace HB := am (below_step (zb HB) hb); clear hb hbox hg) | ((with_reducible refine gate_dst (N := 3) rfl ?_); refine bx 38 #[.string a1_0, rawv a1_1] ?_; intro gb102 hg w4 hbox hb; have BK102 := am (hbox); have GW102 := am (zn hg (zb HB)); have GE102 := am (zn hg (zb HB)); replace HB := am (below_step (zb HB) hb); have NB101_102 := am (zx hg (zk BK101)); have NB102_101 := am (zy hg (zk BK101)); replace BK101 := am (blk_below (zk BK101) hb); clear hb hbox hg) | ((with_reducible refine gate_dst (N := 4) rfl ?_); refine bx 31 #[rawv rawz, .slice none 0 0] ?_; intro gb103 hg w5 hbox hb; have BK103 := am (hbox); have GW103 := am (zn hg (zb HB)); have GE103 := am (zn hg (zb HB)); replace HB := am (below_step (zb HB) hb); have NB101_103 := am (zx hg (zk BK101)); have NB103_101 := am (zy hg (zk BK101)); replace BK101 := am (blk_below (zk BK101) hb); have NB102_103 := am (zx hg (zk BK102)); have NB103_102 := am (zy hg (zk BK102)); replace BK102 := am (blk_below (zk BK102) hb); clear hb hbox hg) | ((with_reducible refine gate_dst (N := 8) rfl ?_); refine Kd.R_lit k38 _ 38 ?hg (N := 8) ?hd (xs := ([] : List (S38))) (inner := []) (ok := fun _ => True) (okp := fun _ => True) ?hr ?hp (fun _ hk => hk) trivial (Below.refl _ _) (Nat.le_refl _) (by simp) ?_; (case hd => rfl); (case hg => rfl); (case hr => first | (go_simp; done) | (go_simp; rfl)); (case hp => exact (Reps.none _ _)); intro v105 w6 ho7 hb hg_ hnew_; clear hg_ hnew_; (first | rw [← Ny104.out] at ho7 | (simp only [Int.reduceToNat] at ho7; rw [← Ny104.out] at ho7)); have HO106 := am (Kd.R_lower (Kd.R_newB ho7 (g := gb102) (o := .cells #[.string a1_0, rawv a1_1] 38 (0, 0)) (zk BK102)) (below_size (zb HB))); replace BK101 := am (blk_below (zk BK101) hb); replace BK102 := am (blk_below (zk BK102) hb); replace BK103 := am (blk_below (zk BK103) hb); replace HB := am (below_step (zb HB) hb); clear hb ho7)))
 go_loopg [5, 6, 7] k (fun kq v5 v6 v7 w' => ∃ (x5_1 : List (S38)) (x6_1 : Bool) (x7_1 : Int), v6 = .bool x6_1 ∧ v7 = .int .i64 x7_1 ∧ Aside0 (spec_l11Add.l0 kq x5_1 x6_1 x7_1 a0_0 l0_1 a1_0 a1_1 = some (r1, r2)) ∧ Aside0 (kq ≤ k) ∧ Aside0 (Kd.R k38 38 w' w.heap.size (fun k_ => k_ ≠ gb102) v5 x5_1) ∧ Aside0 (w'.heap[gb101]? = some (.cells #[rawv a0_0, (.slice A0_1 l0_1.length c0_1)] 31 (0, 0))) ∧ Aside0 (w'.heap[gb102]? = some (.cells #[.string a1_0, rawv a1_1] 38 (0, 0))) ∧ Aside0 (w'.heap[gb103]? = some (.cells #[rawv rawz, (.slice none 0 0)] 31 (0, 0))) ∧ Aside0 (Below w.heap.size w w'))
 case atStart => exact ⟨(y104), (false), (0), ze, ze, H', ⟨Nat.le_refl _⟩, ⟨by (with_reducible repeat (first | apply Kd.R_alloc | apply Kd.R_drewN | apply Kd.R_drew)); exact Kd.R_mono HO106.out (fun _ hk => hk.2)⟩, ⟨zk BK101⟩, ⟨zk BK102⟩, ⟨zk BK103⟩, ⟨zb HB⟩⟩
 case round =>
  clear H'
  try clear p2
  obtain ⟨x5_1, x6_1, x7_1, rfl, rfl, HA, HK1, HO_5, BK101, BK102, BK103, HB⟩ := hrel
  cases gk with
  | zero => exact absurd HA.out (by simp [spec_l11Add.l0])
  | succ k1 =>
   have H := HA.out
   clear HA
   simp only [spec_l11Add.l0] at H
   by_cases c8 : x7_1 < (l0_1.length : Int)
   rotate_left
   · rw [if_neg c8] at H
     have c8b0 : decide (x7_1 < (l0_1.length : Int)) = false := decide_eq_false c8
     clear c8
     by_cases c35 : x6_1 = true
     · subst c35
       have H1 : (some (a0_0, x5_1)) = some (r1, r2) := by rw [if_pos rfl] at H; exact H
       clear H
       have H := H1
       clear H1
       simp only [Option.some.injEq, Prod.mk.injEq] at H
       obtain ⟨rfl, rfl⟩ := H
       have hnb36 := NB101_102.out
       have hnc36 := NB102_101.out
       have hnb37 := NB101_103.out
       have hnc37 := NB103_101.out
       have hcz38_0 := ce0 BK101
       have hcz38_1 := ce1 BK101
       have hfz38_0 := bfz BK101 0
       have hfz38_1 := bfz BK101 1
       obtain ⟨Ao39, co39, eo39⟩ := Kd.R_slice HO_5.out
       subst eo39
       have hnb40 := NB103_102.out
       have hnc40 := NB102_103.out
       have hcz41_0 := ce0 BK103
       have hcz41_1 := ce1 BK103
       have hfz41_0 := bfz BK103 0
       have hfz41_1 := bfz BK103 1
       go_wp2
       repeat (go_quiet (fail); try go_wp2)
       refine bodyPost_ret (results_cell_row rfl _ _ gb103 31 #[rawv a0_0, .slice Ao39 x5_1.length co39] (0, 0) _ rfl (zp BK103) Try.underlying31 rfl (by kernel_rfl)) rfl ?_
       exact ⟨_, zw, by (with_reducible repeat (first | apply Kd.R_alloc | apply Kd.R_drewN | apply Kd.R_drew)); exact Kd.R_mono (Kd.R_far (p := ⟨gb103, 1, none⟩) (Kd.R_far (p := ⟨gb103, 0, none⟩) (Kd.R_far (p := ⟨gb101, 1, none⟩) (Kd.R_types (Kd.R_types HO_5.out BK101.out (by decide)) BK103.out (by decide)) (fun _ hk => hk.1.2) (.slice Ao39 x5_1.length co39)) (fun _ hk => hk.2) (rawv a0_0)) (fun _ hk => hk.2) (.slice Ao39 x5_1.length co39)) (fun _ hk => trivial), (zb HB)⟩
     replace c35 := Bool.eq_false_iff.mpr c35
     subst c35
     have H1 : (if x5_1.length < 3518437208883 then (some (a0_0, (x5_1 ++ [(⟨a1_0, a1_1⟩ : S38)]))) else (none)) = some (r1, r2) := by rw [if_neg (show ¬ (false = true) by decide)] at H; exact H
     clear H
     have H := H1
     clear H1
     by_cases c42 : x5_1.length < 3518437208883
     rotate_left
     · rw [if_neg c42] at H
       exact absurd H (by simp)
     rw [if_pos c42] at H
     have LMc42 := am c42
     clear c42
     obtain ⟨y123, hy123⟩ : ∃ y_ : List (S38), y_ = (x5_1 ++ [(⟨a1_0, a1_1⟩ : S38)]) := ⟨_, rfl⟩
     replace H : (some (a0_0, y123)) = some (r1, r2) := hY hy123 H
     have Ny123 := am hy123
     clear hy123
     simp only [Option.some.injEq, Prod.mk.injEq] at H
     obtain ⟨rfl, rfl⟩ := H
     have hnb43 := NB101_102.out
     have hnc43 := NB102_101.out
     have hnb44 := NB101_103.out
     have hnc44 := NB103_101.out
     have hcz45_0 := ce0 BK101
     have hcz45_1 := ce1 BK101
     have hfz45_0 := bfz BK101 0
     have hfz45_1 := bfz BK101 1
     have hnb46 := NB102_103.out
     have hnc46 := NB103_102.out
     have hcz47_0 := ce0 BK102
     have hcz47_1 := ce1 BK102
     have hfz47_0 := bfz BK102 0
     have hfz47_1 := bfz BK102 1
     go_wp2_with (first | ((with_reducible refine gate_builtin (b := .append) (xs := #[.tmp 43, .tmp 45]) rfl ?_); at_builtin; refine Kd.R_append k38 (w0 := w) w.heap.size rfl (.tmp 43) (.tmp 45) 29 38 (.agg #[(.string ⟨#[]⟩), (.slice none 0 0)]) 40 rfl Try.underlying29 info38 rfl (by decide) (by omega) u5 x5_1 (⟨a1_0, a1_1⟩ : S38) [.string a1_0, rawv a1_1] (fun k_ => k_ ≠ gb102) (fun _ => False) rfl rfl ?aP (fun _ hk => hk.elim) ?aF ?aO ?aB ?aS ?aL ?_; (case aP => exact k38_mkM _ _ _ (⟨a1_0, a1_1⟩ : S38)); (case aB => exact (zb HB)); (case aF => exact (fun k_ hk => Kd.freshB (g := gb102) (o := .cells #[.string a1_0, rawv a1_1] 38 (0, 0)) (zk BK102) k_ hk)); (case aO => exact (zr HO_5)); (case aS => exact (below_size (zb HB))); (case aL => have := LMc42.out; omega); intro v124 w48 ho hb hg hat; rw [← Ny123.out] at ho; replace BK101 := am (blk_grown (zk BK101) hg (Kd.R_ne HO_5.out BK101.out (by decide))); replace BK102 := am (blk_grown (zk BK102) hg (Kd.R_away HO_5.out (fun _ hk => hk))); replace BK103 := am (blk_grown (zk BK103) hg (Kd.R_ne HO_5.out BK103.out (by decide))); replace HB := am (hb); have HO125 := am (ho); clear HO_5; clear ho hb hg hat; obtain ⟨Ao49, co49, eo49⟩ := Kd.R_slice HO125.out; subst eo49; have hcz50_0 := ce0 BK101; have hcz50_1 := ce1 BK101; have hfz50_0 := bfz BK101 0; have hfz50_1 := bfz BK101 1; have hcz51_0 := ce0 BK103; have hcz51_1 := ce1 BK103; have hfz51_0 := bfz BK103 0; have hfz51_1 := bfz BK103 1))
     repeat (go_quiet (first | ((with_reducible refine gate_builtin (b := .append) (xs := #[.tmp 43, .tmp 45]) rfl ?_); at_builtin; refine Kd.R_append k38 (w0 := w) w.heap.size rfl (.tmp 43) (.tmp 45) 29 38 (.agg #[(.string ⟨#[]⟩), (.slice none 0 0)]) 40 rfl Try.underlying29 info38 rfl (by decide) (by omega) u5 x5_1 (⟨a1_0, a1_1⟩ : S38) [.string a1_0, rawv a1_1] (fun k_ => k_ ≠ gb102) (fun _ => False) rfl rfl ?aP (fun _ hk => hk.elim) ?aF ?aO ?aB ?aS ?aL ?_; (case aP => exact k38_mkM _ _ _ (⟨a1_0, a1_1⟩ : S38)); (case aB => exact (zb HB)); (case aF => exact (fun k_ hk => Kd.freshB (g := gb102) (o := .cells #[.string a1_0, rawv a1_1] 38 (0, 0)) (zk BK102) k_ hk)); (case aO => exact (zr HO_5)); (case aS => exact (below_size (zb HB))); (case aL => have := LMc42.out; omega); intro v124 w48 ho hb hg hat; rw [← Ny123.out] at ho; replace BK101 := am (blk_grown (zk BK101) hg (Kd.R_ne HO_5.out BK101.out (by decide))); replace BK102 := am (blk_grown (zk BK102) hg (Kd.R_away HO_5.out (fun _ hk => hk))); replace BK103 := am (blk_grown (zk BK103) hg (Kd.R_ne HO_5.out BK103.out (by decide))); replace HB := am (hb); have HO125 := am (ho); clear HO_5; clear ho hb hg hat; obtain ⟨Ao49, co49, eo49⟩ := Kd.R_slice HO125.out; subst eo49; have hcz50_0 := ce0 BK101; have hcz50_1 := ce1 BK101; have hfz50_0 := bfz BK101 0; have hfz50_1 := bfz BK101 1; have hcz51_0 := ce0 BK103; have hcz51_1 := ce1 BK103; have hfz51_0 := bfz BK103 0; have hfz51_1 := bfz BK103 1)); try go_wp2_with (first | ((with_reducible refine gate_builtin (b := .append) (xs := #[.tmp 43, .tmp 45]) rfl ?_); at_builtin; refine Kd.R_append k38 (w0 := w) w.heap.size rfl (.tmp 43) (.tmp 45) 29 38 (.agg #[(.string ⟨#[]⟩), (.slice none 0 0)]) 40 rfl Try.underlying29 info38 rfl (by decide) (by omega) u5 x5_1 (⟨a1_0, a1_1⟩ : S38) [.string a1_0, rawv a1_1] (fun k_ => k_ ≠ gb102) (fun _ => False) rfl rfl ?aP (fun _ hk => hk.elim) ?aF ?aO ?aB ?aS ?aL ?_; (case aP => exact k38_mkM _ _ _ (⟨a1_0, a1_1⟩ : S38)); (case aB => exact (zb HB)); (case aF => exact (fun k_ hk => Kd.freshB (g := gb102) (o := .cells #[.string a1_0, rawv a1_1] 38 (0, 0)) (zk BK102) k_ hk)); (case aO => exact (zr HO_5)); (case aS => exact (below_size (zb HB))); (case aL => have := LMc42.out; omega); intro v124 w48 ho hb hg hat; rw [← Ny123.out] at ho; replace BK101 := am (blk_grown (zk BK101) hg (Kd.R_ne HO_5.out BK101.out (by decide))); replace BK102 := am (blk_grown (zk BK102) hg (Kd.R_away HO_5.out (fun _ hk => hk))); replace BK103 := am (blk_grown (zk BK103) hg (Kd.R_ne HO_5.out BK103.out (by decide))); replace HB := am (hb); have HO125 := am (ho); clear HO_5; clear ho hb hg hat; obtain ⟨Ao49, co49, eo49⟩ := Kd.R_slice HO125.out; subst eo49; have hcz50_0 := ce0 BK101; have hcz50_1 := ce1 BK101; have hfz50_0 := bfz BK101 0; have hfz50_1 := bfz BK101 1; have hcz51_0 := ce0 BK103; have hcz51_1 := ce1 BK103; have hfz51_0 := bfz BK103 0; have hfz51_1 := bfz BK103 1)))
     refine bodyPost_ret (results_cell_row rfl _ _ gb103 31 #[rawv a0_0, .slice Ao49 y123.length co49] (0, 0) _ rfl (zp BK103) Try.underlying31 rfl (by kernel_rfl)) rfl ?_
     exact ⟨_, zw, by (with_reducible repeat (first | apply Kd.R_alloc | apply Kd.R_drewN | apply Kd.R_drew)); exact Kd.R_mono (Kd.R_far (p := ⟨gb103, 1, none⟩) (Kd.R_far (p := ⟨gb103, 0, none⟩) (Kd.R_far (p := ⟨gb101, 1, none⟩) (Kd.R_types (Kd.R_types HO125.out BK101.out (by decide)) BK103.out (by decide)) (fun _ hk => hk.1.2) (.slice Ao49 y123.length co49)) (fun _ hk => hk.2) (rawv a0_0)) (fun _ hk => hk.2) (.slice Ao49 y123.length co49)) (fun _ hk => trivial), (zb HB)⟩
   rw [if_pos c8] at H
   have c8b0 : decide (x7_1 < (l0_1.length : Int)) = true := decide_eq_true c8
   clear c8
   by_cases c9 : x6_1 = true
   · subst c9
     have H1 : (if 0 ≤ x7_1 then (if x5_1.length < 3518437208883 then (spec_l11Add.l0 k1 (x5_1 ++ [(⟨(rd_T38 l0_1 x7_1).f0, (rd_T38 l0_1 x7_1).f1⟩ : S38)]) true (wrap64 (x7_1 + 1)) a0_0 l0_1 a1_0 a1_1) else (none)) else (none)) = some (r1, r2) := by rw [if_pos rfl] at H; exact H
     clear H
     have H := H1
     clear H1
     by_cases c10 : 0 ≤ x7_1
     rotate_left
     · rw [if_neg c10] at H
       exact absurd H (by simp)
     rw [if_pos c10] at H
     have c10b0 : decide (0 ≤ x7_1) = true := decide_eq_true c10
     clear c10
     by_cases c11 : x5_1.length < 3518437208883
     rotate_left
     · rw [if_neg c11] at H
       exact absurd H (by simp)
     rw [if_pos c11] at H
     have LMc11 := am c11
     clear c11
     obtain ⟨y108, hy108⟩ : ∃ y_ : List (S38), y_ = (x5_1 ++ [(⟨(rd_T38 l0_1 x7_1).f0, (rd_T38 l0_1 x7_1).f1⟩ : S38)]) := ⟨_, rfl⟩
     replace H : (spec_l11Add.l0 k1 y108 true (wrap64 (x7_1 + 1)) a0_0 l0_1 a1_0 a1_1) = some (r1, r2) := hY hy108 H
     have Ny108 := am hy108
     clear hy108
     have H' := am H
     clear H
     have hnb12 := NB101_102.out
     have hnc12 := NB102_101.out
     have hnb13 := NB101_103.out
     have hnc13 := NB103_101.out
     have hcz14_0 := ce0 BK101
     have hcz14_1 := ce1 BK101
     have hfz14_0 := bfz BK101 0
     have hfz14_1 := bfz BK101 1
     have p107 : 0 ≤ (x7_1 : Int) := of_decide_eq_true zl
     have q107 : x7_1 < (l0_1.length : Int) := of_decide_eq_true zl
     obtain ⟨ad107, e107, hx107_0, hx107_1⟩ := at_T38 HR0_1.out x7_1 p107 q107
     cases e107
     replace hx107_0 := hcx HB hx107_0
     replace hx107_1 := hcx HB hx107_1
     replace p107 := eq_true p107
     replace q107 := eq_true q107
     go_wp2_with (first | ((with_reducible refine gate_builtin (b := .append) (xs := #[.tmp 33, .tmp 39]) rfl ?_); at_builtin; refine Kd.R_append k38 (w0 := w) w.heap.size rfl (.tmp 33) (.tmp 39) 29 38 (.agg #[(.string ⟨#[]⟩), (.slice none 0 0)]) 40 rfl Try.underlying29 info38 rfl (by decide) (by omega) u5 x5_1 (⟨(rd_T38 l0_1 x7_1).f0, (rd_T38 l0_1 x7_1).f1⟩ : S38) [.string ((rd_T38 l0_1 x7_1).f0), rawv ((rd_T38 l0_1 x7_1).f1)] (fun k_ => k_ ≠ gb102) (fun _ => False) rfl rfl ?aP (fun _ hk => hk.elim) ?aF ?aO ?aB ?aS ?aL ?_; (case aP => exact k38_mkM _ _ _ (⟨(rd_T38 l0_1 x7_1).f0, (rd_T38 l0_1 x7_1).f1⟩ : S38)); (case aB => exact (zb HB)); (case aF => exact (fun k_ hk => Kd.freshB (g := gb102) (o := .cells #[.string a1_0, rawv a1_1] 38 (0, 0)) (zk BK102) k_ hk)); (case aO => exact (zr HO_5)); (case aS => exact (below_size (zb HB))); (case aL => have := LMc11.out; omega); intro v109 w15 ho hb hg hat; rw [← Ny108.out] at ho; replace BK101 := am (blk_grown (zk BK101) hg (Kd.R_ne HO_5.out BK101.out (by decide))); replace BK102 := am (blk_grown (zk BK102) hg (Kd.R_away HO_5.out (fun _ hk => hk))); replace BK103 := am (blk_grown (zk BK103) hg (Kd.R_ne HO_5.out BK103.out (by decide))); replace HB := am (hb); have HO110 := am (ho); clear HO_5; clear ho hb hg hat))
     repeat (go_quiet (first | ((with_reducible refine gate_builtin (b := .append) (xs := #[.tmp 33, .tmp 39]) rfl ?_); at_builtin; refine Kd.R_append k38 (w0 := w) w.heap.size rfl (.tmp 33) (.tmp 39) 29 38 (.agg #[(.string ⟨#[]⟩), (.slice none 0 0)]) 40 rfl Try.underlying29 info38 rfl (by decide) (by omega) u5 x5_1 (⟨(rd_T38 l0_1 x7_1).f0, (rd_T38 l0_1 x7_1).f1⟩ : S38) [.string ((rd_T38 l0_1 x7_1).f0), rawv ((rd_T38 l0_1 x7_1).f1)] (fun k_ => k_ ≠ gb102) (fun _ => False) rfl rfl ?aP (fun _ hk => hk.elim) ?aF ?aO ?aB ?aS ?aL ?_; (case aP => exact k38_mkM _ _ _ (⟨(rd_T38 l0_1 x7_1).f0, (rd_T38 l0_1 x7_1).f1⟩ : S38)); (case aB => exact (zb HB)); (case aF => exact (fun k_ hk => Kd.freshB (g := gb102) (o := .cells #[.string a1_0, rawv a1_1] 38 (0, 0)) (zk BK102) k_ hk)); (case aO => exact (zr HO_5)); (case aS => exact (below_size (zb HB))); (case aL => have := LMc11.out; omega); intro v109 w15 ho hb hg hat; rw [← Ny108.out] at ho; replace BK101 := am (blk_grown (zk BK101) hg (Kd.R_ne HO_5.out BK101.out (by decide))); replace BK102 := am (blk_grown (zk BK102) hg (Kd.R_away HO_5.out (fun _ hk => hk))); replace BK103 := am (blk_grown (zk BK103) hg (Kd.R_ne HO_5.out BK103.out (by decide))); replace HB := am (hb); have HO110 := am (ho); clear HO_5; clear ho hb hg hat)); try go_wp2_with (first | ((with_reducible refine gate_builtin (b := .append) (xs := #[.tmp 33, .tmp 39]) rfl ?_); at_builtin; refine Kd.R_append k38 (w0 := w) w.heap.size rfl (.tmp 33) (.tmp 39) 29 38 (.agg #[(.string ⟨#[]⟩), (.slice none 0 0)]) 40 rfl Try.underlying29 info38 rfl (by decide) (by omega) u5 x5_1 (⟨(rd_T38 l0_1 x7_1).f0, (rd_T38 l0_1 x7_1).f1⟩ : S38) [.string ((rd_T38 l0_1 x7_1).f0), rawv ((rd_T38 l0_1 x7_1).f1)] (fun k_ => k_ ≠ gb102) (fun _ => False) rfl rfl ?aP (fun _ hk => hk.elim) ?aF ?aO ?aB ?aS ?aL ?_; (case aP => exact k38_mkM _ _ _ (⟨(rd_T38 l0_1 x7_1).f0, (rd_T38 l0_1 x7_1).f1⟩ : S38)); (case aB => exact (zb HB)); (case aF => exact (fun k_ hk => Kd.freshB (g := gb102) (o := .cells #[.string a1_0, rawv a1_1] 38 (0, 0)) (zk BK102) k_ hk)); (case aO => exact (zr HO_5)); (case aS => exact (below_size (zb HB))); (case aL => have := LMc11.out; omega); intro v109 w15 ho hb hg hat; rw [← Ny108.out] at ho; replace BK101 := am (blk_grown (zk BK101) hg (Kd.R_ne HO_5.out BK101.out (by decide))); replace BK102 := am (blk_grown (zk BK102) hg (Kd.R_away HO_5.out (fun _ hk => hk))); replace BK103 := am (blk_grown (zk BK103) hg (Kd.R_ne HO_5.out BK103.out (by decide))); replace HB := am (hb); have HO110 := am (ho); clear HO_5; clear ho hb hg hat)))
     go_roundg k1
     case measure => have := HK1.out; omega
     case rel => exact ⟨(y108), (true), (wrap64 (x7_1 + 1)), ze, ze, H', ⟨by have := HK1.out; omega⟩, ⟨zr HO110⟩, ⟨zk BK101⟩, ⟨zk BK102⟩, ⟨zk BK103⟩, ⟨zb HB⟩⟩
   replace c9 := Bool.eq_false_iff.mpr c9
   subst c9
   have H1 : (if 0 ≤ x7_1 then (if (Op.bytesLess a1_0.toList (((rd_T38 l0_1 x7_1).f0).toList)) = true then (if x5_1.length < 3518437208883 then ((some (x5_1 ++ [(⟨a1_0, a1_1⟩ : S38)] : List (S38))).bind fun y112 => (if y112.length < 3518437208883 then (spec_l11Add.l0 k1 (y112 ++ [(⟨(rd_T38 l0_1 x7_1).f0, (rd_T38 l0_1 x7_1).f1⟩ : S38)]) true (wrap64 (x7_1 + 1)) a0_0 l0_1 a1_0 a1_1) else (none))) else (none)) else (if x5_1.length < 3518437208883 then (spec_l11Add.l0 k1 (x5_1 ++ [(⟨(rd_T38 l0_1 x7_1).f0, (rd_T38 l0_1 x7_1).f1⟩ : S38)]) false (wrap64 (x7_1 + 1)) a0_0 l0_1 a1_0 a1_1) else (none))) else (none)) = some (r1, r2) := by rw [if_neg (show ¬ (false = true) by decide)] at H; exact H
   clear H
   have H := H1
   clear H1
   by_cases c16 : 0 ≤ x7_1
   rotate_left
   · rw [if_neg c16] at H
     exact absurd H (by simp)
   rw [if_pos c16] at H
   have c16b0 : decide (0 ≤ x7_1) = true := decide_eq_true c16
   clear c16
   by_cases c17 : (Op.bytesLess a1_0.toList (((rd_T38 l0_1 x7_1).f0).toList)) = true
   rotate_left
   · rw [if_neg c17] at H
     have c17b0 : (Op.bytesLess a1_0.toList (((rd_T38 l0_1 x7_1).f0).toList)) = false := by simpa using c17
     (try have c17b5 : (!Op.bytesLess (((rd_T38 l0_1 x7_1).f0).toList) a1_0.toList && !(((rd_T38 l0_1 x7_1).f0).toList) == a1_0.toList) = false := (Go.Proofs.YtooamacekmjpaaaB.gtr_eq _ _).trans c17b0)
     clear c17
     by_cases c28 : x5_1.length < 3518437208883
     rotate_left
     · rw [if_neg c28] at H
       exact absurd H (by simp)
     rw [if_pos c28] at H
     have LMc28 := am c28
     clear c28
     obtain ⟨y120, hy120⟩ : ∃ y_ : List (S38), y_ = (x5_1 ++ [(⟨(rd_T38 l0_1 x7_1).f0, (rd_T38 l0_1 x7_1).f1⟩ : S38)]) := ⟨_, rfl⟩
     replace H : (spec_l11Add.l0 k1 y120 false (wrap64 (x7_1 + 1)) a0_0 l0_1 a1_0 a1_1) = some (r1, r2) := hY hy120 H
     have Ny120 := am hy120
     clear hy120
     have H' := am H
     clear H
     have hnb29 := NB101_102.out
     have hnc29 := NB102_101.out
     have hnb30 := NB101_103.out
     have hnc30 := NB103_101.out
     have hcz31_0 := ce0 BK101
     have hcz31_1 := ce1 BK101
     have hfz31_0 := bfz BK101 0
     have hfz31_1 := bfz BK101 1
     have p111 : 0 ≤ (x7_1 : Int) := of_decide_eq_true zl
     have q111 : x7_1 < (l0_1.length : Int) := of_decide_eq_true zl
     obtain ⟨ad111, e111, hx111_0, hx111_1⟩ := at_T38 HR0_1.out x7_1 p111 q111
     cases e111
     replace hx111_0 := hcx HB hx111_0
     replace hx111_1 := hcx HB hx111_1
     replace p111 := eq_true p111
     replace q111 := eq_true q111
     have hnb32 := NB102_103.out
     have hnc32 := NB103_102.out
     have hcz33_0 := ce0 BK102
     have hcz33_1 := ce1 BK102
     have hfz33_0 := bfz BK102 0
     have hfz33_1 := bfz BK102 1
     have p119 : 0 ≤ (x7_1 : Int) := of_decide_eq_true zl
     have q119 : x7_1 < (l0_1.length : Int) := of_decide_eq_true zl
     obtain ⟨ad119, e119, hx119_0, hx119_1⟩ := at_T38 HR0_1.out x7_1 p119 q119
     obtain rfl : ad111 = ad119 := (by injection e119)
     replace hx119_0 := hcx HB hx119_0
     replace hx119_1 := hcx HB hx119_1
     replace p119 := eq_true p119
     replace q119 := eq_true q119
     go_wp2_with (first | ((with_reducible refine gate_builtin (b := .append) (xs := #[.tmp 33, .tmp 39]) rfl ?_); at_builtin; refine Kd.R_append k38 (w0 := w) w.heap.size rfl (.tmp 33) (.tmp 39) 29 38 (.agg #[(.string ⟨#[]⟩), (.slice none 0 0)]) 40 rfl Try.underlying29 info38 rfl (by decide) (by omega) u5 x5_1 (⟨(rd_T38 l0_1 x7_1).f0, (rd_T38 l0_1 x7_1).f1⟩ : S38) [.string ((rd_T38 l0_1 x7_1).f0), rawv ((rd_T38 l0_1 x7_1).f1)] (fun k_ => k_ ≠ gb102) (fun _ => False) rfl rfl ?aP (fun _ hk => hk.elim) ?aF ?aO ?aB ?aS ?aL ?_; (case aP => exact k38_mkM _ _ _ (⟨(rd_T38 l0_1 x7_1).f0, (rd_T38 l0_1 x7_1).f1⟩ : S38)); (case aB => exact (zb HB)); (case aF => exact (fun k_ hk => Kd.freshB (g := gb102) (o := .cells #[.string a1_0, rawv a1_1] 38 (0, 0)) (zk BK102) k_ hk)); (case aO => exact (zr HO_5)); (case aS => exact (below_size (zb HB))); (case aL => have := LMc28.out; omega); intro v121 w34 ho hb hg hat; rw [← Ny120.out] at ho; replace BK101 := am (blk_grown (zk BK101) hg (Kd.R_ne HO_5.out BK101.out (by decide))); replace BK102 := am (blk_grown (zk BK102) hg (Kd.R_away HO_5.out (fun _ hk => hk))); replace BK103 := am (blk_grown (zk BK103) hg (Kd.R_ne HO_5.out BK103.out (by decide))); replace HB := am (hb); have HO122 := am (ho); clear HO_5; clear ho hb hg hat))
     repeat (go_quiet (first | ((with_reducible refine gate_builtin (b := .append) (xs := #[.tmp 33, .tmp 39]) rfl ?_); at_builtin; refine Kd.R_append k38 (w0 := w) w.heap.size rfl (.tmp 33) (.tmp 39) 29 38 (.agg #[(.string ⟨#[]⟩), (.slice none 0 0)]) 40 rfl Try.underlying29 info38 rfl (by decide) (by omega) u5 x5_1 (⟨(rd_T38 l0_1 x7_1).f0, (rd_T38 l0_1 x7_1).f1⟩ : S38) [.string ((rd_T38 l0_1 x7_1).f0), rawv ((rd_T38 l0_1 x7_1).f1)] (fun k_ => k_ ≠ gb102) (fun _ => False) rfl rfl ?aP (fun _ hk => hk.elim) ?aF ?aO ?aB ?aS ?aL ?_; (case aP => exact k38_mkM _ _ _ (⟨(rd_T38 l0_1 x7_1).f0, (rd_T38 l0_1 x7_1).f1⟩ : S38)); (case aB => exact (zb HB)); (case aF => exact (fun k_ hk => Kd.freshB (g := gb102) (o := .cells #[.string a1_0, rawv a1_1] 38 (0, 0)) (zk BK102) k_ hk)); (case aO => exact (zr HO_5)); (case aS => exact (below_size (zb HB))); (case aL => have := LMc28.out; omega); intro v121 w34 ho hb hg hat; rw [← Ny120.out] at ho; replace BK101 := am (blk_grown (zk BK101) hg (Kd.R_ne HO_5.out BK101.out (by decide))); replace BK102 := am (blk_grown (zk BK102) hg (Kd.R_away HO_5.out (fun _ hk => hk))); replace BK103 := am (blk_grown (zk BK103) hg (Kd.R_ne HO_5.out BK103.out (by decide))); replace HB := am (hb); have HO122 := am (ho); clear HO_5; clear ho hb hg hat)); try go_wp2_with (first | ((with_reducible refine gate_builtin (b := .append) (xs := #[.tmp 33, .tmp 39]) rfl ?_); at_builtin; refine Kd.R_append k38 (w0 := w) w.heap.size rfl (.tmp 33) (.tmp 39) 29 38 (.agg #[(.string ⟨#[]⟩), (.slice none 0 0)]) 40 rfl Try.underlying29 info38 rfl (by decide) (by omega) u5 x5_1 (⟨(rd_T38 l0_1 x7_1).f0, (rd_T38 l0_1 x7_1).f1⟩ : S38) [.string ((rd_T38 l0_1 x7_1).f0), rawv ((rd_T38 l0_1 x7_1).f1)] (fun k_ => k_ ≠ gb102) (fun _ => False) rfl rfl ?aP (fun _ hk => hk.elim) ?aF ?aO ?aB ?aS ?aL ?_; (case aP => exact k38_mkM _ _ _ (⟨(rd_T38 l0_1 x7_1).f0, (rd_T38 l0_1 x7_1).f1⟩ : S38)); (case aB => exact (zb HB)); (case aF => exact (fun k_ hk => Kd.freshB (g := gb102) (o := .cells #[.string a1_0, rawv a1_1] 38 (0, 0)) (zk BK102) k_ hk)); (case aO => exact (zr HO_5)); (case aS => exact (below_size (zb HB))); (case aL => have := LMc28.out; omega); intro v121 w34 ho hb hg hat; rw [← Ny120.out] at ho; replace BK101 := am (blk_grown (zk BK101) hg (Kd.R_ne HO_5.out BK101.out (by decide))); replace BK102 := am (blk_grown (zk BK102) hg (Kd.R_away HO_5.out (fun _ hk => hk))); replace BK103 := am (blk_grown (zk BK103) hg (Kd.R_ne HO_5.out BK103.out (by decide))); replace HB := am (hb); have HO122 := am (ho); clear HO_5; clear ho hb hg hat)))
     go_roundg k1
     case measure => have := HK1.out; omega
     case rel => exact ⟨(y120), (false), (wrap64 (x7_1 + 1)), ze, ze, H', ⟨by have := HK1.out; omega⟩, ⟨zr HO122⟩, ⟨zk BK101⟩, ⟨zk BK102⟩, ⟨zk BK103⟩, ⟨zb HB⟩⟩
   rw [if_pos c17] at H
   have c17b0 : (Op.bytesLess a1_0.toList (((rd_T38 l0_1 x7_1).f0).toList)) = true := c17
   (try have c17b5 : (!Op.bytesLess (((rd_T38 l0_1 x7_1).f0).toList) a1_0.toList && !(((rd_T38 l0_1 x7_1).f0).toList) == a1_0.toList) = true := (Go.Proofs.YtooamacekmjpaaaB.gtr_eq _ _).trans c17b0)
   clear c17
   by_cases c18 : x5_1.length < 3518437208883
   rotate_left
   · rw [if_neg c18] at H
     exact absurd H (by simp)
   rw [if_pos c18] at H
   have LMc18 := am c18
   clear c18
   obtain ⟨y112, hy112⟩ : ∃ y_ : List (S38), y_ = (x5_1 ++ [(⟨a1_0, a1_1⟩ : S38)]) := ⟨_, rfl⟩
   replace H : (if y112.length < 3518437208883 then (spec_l11Add.l0 k1 (y112 ++ [(⟨(rd_T38 l0_1 x7_1).f0, (rd_T38 l0_1 x7_1).f1⟩ : S38)]) true (wrap64 (x7_1 + 1)) a0_0 l0_1 a1_0 a1_1) else (none)) = some (r1, r2) := hY hy112 H
   have Ny112 := am hy112
   clear hy112
   by_cases c19 : y112.length < 3518437208883
   rotate_left
   · rw [if_neg c19] at H
     exact absurd H (by simp)
   rw [if_pos c19] at H
   have LMc19 := am c19
   clear c19
   obtain ⟨y116, hy116⟩ : ∃ y_ : List (S38), y_ = (y112 ++ [(⟨(rd_T38 l0_1 x7_1).f0, (rd_T38 l0_1 x7_1).f1⟩ : S38)]) := ⟨_, rfl⟩
   replace H : (spec_l11Add.l0 k1 y116 true (wrap64 (x7_1 + 1)) a0_0 l0_1 a1_0 a1_1) = some (r1, r2) := hY hy116 H
   have Ny116 := am hy116
   clear hy116
   have H' := am H
   clear H
   have hnb20 := NB101_102.out
   have hnc20 := NB102_101.out
   have hnb21 := NB101_103.out
   have hnc21 := NB103_101.out
   have hcz22_0 := ce0 BK101
   have hcz22_1 := ce1 BK101
   have hfz22_0 := bfz BK101 0
   have hfz22_1 := bfz BK101 1
   have p111 : 0 ≤ (x7_1 : Int) := of_decide_eq_true zl
   have q111 : x7_1 < (l0_1.length : Int) := of_decide_eq_true zl
   obtain ⟨ad111, e111, hx111_0, hx111_1⟩ := at_T38 HR0_1.out x7_1 p111 q111
   cases e111
   replace hx111_0 := hcx HB hx111_0
   replace hx111_1 := hcx HB hx111_1
   replace p111 := eq_true p111
   replace q111 := eq_true q111
   have hnb23 := NB102_103.out
   have hnc23 := NB103_102.out
   have hcz24_0 := ce0 BK102
   have hcz24_1 := ce1 BK102
   have hfz24_0 := bfz BK102 0
   have hfz24_1 := bfz BK102 1
   go_wp2_with (first | ((with_reducible refine gate_builtin (b := .append) (xs := #[.tmp 29, .tmp 31]) rfl ?_); at_builtin; refine Kd.R_append k38 (w0 := w) w.heap.size rfl (.tmp 29) (.tmp 31) 29 38 (.agg #[(.string ⟨#[]⟩), (.slice none 0 0)]) 40 rfl Try.underlying29 info38 rfl (by decide) (by omega) u5 x5_1 (⟨a1_0, a1_1⟩ : S38) [.string a1_0, rawv a1_1] (fun k_ => k_ ≠ gb102) (fun _ => False) rfl rfl ?aP (fun _ hk => hk.elim) ?aF ?aO ?aB ?aS ?aL ?_; (case aP => exact k38_mkM _ _ _ (⟨a1_0, a1_1⟩ : S38)); (case aB => exact (zb HB)); (case aF => exact (fun k_ hk => Kd.freshB (g := gb102) (o := .cells #[.string a1_0, rawv a1_1] 38 (0, 0)) (zk BK102) k_ hk)); (case aO => exact (zr HO_5)); (case aS => exact (below_size (zb HB))); (case aL => have := LMc18.out; omega); intro v113 w25 ho hb hg hat; rw [← Ny112.out] at ho; replace BK101 := am (blk_grown (zk BK101) hg (Kd.R_ne HO_5.out BK101.out (by decide))); replace BK102 := am (blk_grown (zk BK102) hg (Kd.R_away HO_5.out (fun _ hk => hk))); replace BK103 := am (blk_grown (zk BK103) hg (Kd.R_ne HO_5.out BK103.out (by decide))); replace HB := am (hb); have HO114 := am (ho); clear HO_5; clear ho hb hg hat; have hcz26_0 := ce0 BK101; have hcz26_1 := ce1 BK101; have hfz26_0 := bfz BK101 0; have hfz26_1 := bfz BK101 1; have p115 : 0 ≤ (x7_1 : Int) := of_decide_eq_true zl; have q115 : x7_1 < (l0_1.length : Int) := of_decide_eq_true zl; obtain ⟨ad115, e115, hx115_0, hx115_1⟩ := at_T38 HR0_1.out x7_1 p115 q115; obtain rfl : ad111 = ad115 := (by injection e115); replace hx115_0 := hcx HB hx115_0; replace hx115_1 := hcx HB hx115_1; replace p115 := eq_true p115; replace q115 := eq_true q115) | ((with_reducible refine gate_builtin (b := .append) (xs := #[.tmp 33, .tmp 39]) rfl ?_); at_builtin; refine Kd.R_append k38 (w0 := w) w.heap.size rfl (.tmp 33) (.tmp 39) 29 38 (.agg #[(.string ⟨#[]⟩), (.slice none 0 0)]) 40 rfl Try.underlying29 info38 rfl (by decide) (by omega) v113 y112 (⟨(rd_T38 l0_1 x7_1).f0, (rd_T38 l0_1 x7_1).f1⟩ : S38) [.string ((rd_T38 l0_1 x7_1).f0), rawv ((rd_T38 l0_1 x7_1).f1)] (fun k_ => k_ ≠ gb102) (fun _ => False) rfl rfl ?aP (fun _ hk => hk.elim) ?aF ?aO ?aB ?aS ?aL ?_; (case aP => exact k38_mkM _ _ _ (⟨(rd_T38 l0_1 x7_1).f0, (rd_T38 l0_1 x7_1).f1⟩ : S38)); (case aB => exact (zb HB)); (case aF => exact (fun k_ hk => Kd.freshB (g := gb102) (o := .cells #[.string a1_0, rawv a1_1] 38 (0, 0)) (zk BK102) k_ hk)); (case aO => exact (zr HO114)); (case aS => exact (below_size (zb HB))); (case aL => have := LMc19.out; omega); intro v117 w27 ho hb hg hat; rw [← Ny116.out] at ho; replace BK101 := am (blk_grown (zk BK101) hg (Kd.R_ne HO114.out BK101.out (by decide))); replace BK102 := am (blk_grown (zk BK102) hg (Kd.R_away HO114.out (fun _ hk => hk))); replace BK103 := am (blk_grown (zk BK103) hg (Kd.R_ne HO114.out BK103.out (by decide))); replace HB := am (hb); have HO118 := am (ho); clear HO114; clear ho hb hg hat))
   repeat (go_quiet (first | ((with_reducible refine gate_builtin (b := .append) (xs := #[.tmp 29, .tmp 31]) rfl ?_); at_builtin; refine Kd.R_append k38 (w0 := w) w.heap.size rfl (.tmp 29) (.tmp 31) 29 38 (.agg #[(.string ⟨#[]⟩), (.slice none 0 0)]) 40 rfl Try.underlying29 info38 rfl (by decide) (by omega) u5 x5_1 (⟨a1_0, a1_1⟩ : S38) [.string a1_0, rawv a1_1] (fun k_ => k_ ≠ gb102) (fun _ => False) rfl rfl ?aP (fun _ hk => hk.elim) ?aF ?aO ?aB ?aS ?aL ?_; (case aP => exact k38_mkM _ _ _ (⟨a1_0, a1_1⟩ : S38)); (case aB => exact (zb HB)); (case aF => exact (fun k_ hk => Kd.freshB (g := gb102) (o := .cells #[.string a1_0, rawv a1_1] 38 (0, 0)) (zk BK102) k_ hk)); (case aO => exact (zr HO_5)); (case aS => exact (below_size (zb HB))); (case aL => have := LMc18.out; omega); intro v113 w25 ho hb hg hat; rw [← Ny112.out] at ho; replace BK101 := am (blk_grown (zk BK101) hg (Kd.R_ne HO_5.out BK101.out (by decide))); replace BK102 := am (blk_grown (zk BK102) hg (Kd.R_away HO_5.out (fun _ hk => hk))); replace BK103 := am (blk_grown (zk BK103) hg (Kd.R_ne HO_5.out BK103.out (by decide))); replace HB := am (hb); have HO114 := am (ho); clear HO_5; clear ho hb hg hat; have hcz26_0 := ce0 BK101; have hcz26_1 := ce1 BK101; have hfz26_0 := bfz BK101 0; have hfz26_1 := bfz BK101 1; have p115 : 0 ≤ (x7_1 : Int) := of_decide_eq_true zl; have q115 : x7_1 < (l0_1.length : Int) := of_decide_eq_true zl; obtain ⟨ad115, e115, hx115_0, hx115_1⟩ := at_T38 HR0_1.out x7_1 p115 q115; obtain rfl : ad111 = ad115 := (by injection e115); replace hx115_0 := hcx HB hx115_0; replace hx115_1 := hcx HB hx115_1; replace p115 := eq_true p115; replace q115 := eq_true q115) | ((with_reducible refine gate_builtin (b := .append) (xs := #[.tmp 33, .tmp 39]) rfl ?_); at_builtin; refine Kd.R_append k38 (w0 := w) w.heap.size rfl (.tmp 33) (.tmp 39) 29 38 (.agg #[(.string ⟨#[]⟩), (.slice none 0 0)]) 40 rfl Try.underlying29 info38 rfl (by decide) (by omega) v113 y112 (⟨(rd_T38 l0_1 x7_1).f0, (rd_T38 l0_1 x7_1).f1⟩ : S38) [.string ((rd_T38 l0_1 x7_1).f0), rawv ((rd_T38 l0_1 x7_1).f1)] (fun k_ => k_ ≠ gb102) (fun _ => False) rfl rfl ?aP (fun _ hk => hk.elim) ?aF ?aO ?aB ?aS ?aL ?_; (case aP => exact k38_mkM _ _ _ (⟨(rd_T38 l0_1 x7_1).f0, (rd_T38 l0_1 x7_1).f1⟩ : S38)); (case aB => exact (zb HB)); (case aF => exact (fun k_ hk => Kd.freshB (g := gb102) (o := .cells #[.string a1_0, rawv a1_1] 38 (0, 0)) (zk BK102) k_ hk)); (case aO => exact (zr HO114)); (case aS => exact (below_size (zb HB))); (case aL => have := LMc19.out; omega); intro v117 w27 ho hb hg hat; rw [← Ny116.out] at ho; replace BK101 := am (blk_grown (zk BK101) hg (Kd.R_ne HO114.out BK101.out (by decide))); replace BK102 := am (blk_grown (zk BK102) hg (Kd.R_away HO114.out (fun _ hk => hk))); replace BK103 := am (blk_grown (zk BK103) hg (Kd.R_ne HO114.out BK103.out (by decide))); replace HB := am (hb); have HO118 := am (ho); clear HO114; clear ho hb hg hat)); try go_wp2_with (first | ((with_reducible refine gate_builtin (b := .append) (xs := #[.tmp 29, .tmp 31]) rfl ?_); at_builtin; refine Kd.R_append k38 (w0 := w) w.heap.size rfl (.tmp 29) (.tmp 31) 29 38 (.agg #[(.string ⟨#[]⟩), (.slice none 0 0)]) 40 rfl Try.underlying29 info38 rfl (by decide) (by omega) u5 x5_1 (⟨a1_0, a1_1⟩ : S38) [.string a1_0, rawv a1_1] (fun k_ => k_ ≠ gb102) (fun _ => False) rfl rfl ?aP (fun _ hk => hk.elim) ?aF ?aO ?aB ?aS ?aL ?_; (case aP => exact k38_mkM _ _ _ (⟨a1_0, a1_1⟩ : S38)); (case aB => exact (zb HB)); (case aF => exact (fun k_ hk => Kd.freshB (g := gb102) (o := .cells #[.string a1_0, rawv a1_1] 38 (0, 0)) (zk BK102) k_ hk)); (case aO => exact (zr HO_5)); (case aS => exact (below_size (zb HB))); (case aL => have := LMc18.out; omega); intro v113 w25 ho hb hg hat; rw [← Ny112.out] at ho; replace BK101 := am (blk_grown (zk BK101) hg (Kd.R_ne HO_5.out BK101.out (by decide))); replace BK102 := am (blk_grown (zk BK102) hg (Kd.R_away HO_5.out (fun _ hk => hk))); replace BK103 := am (blk_grown (zk BK103) hg (Kd.R_ne HO_5.out BK103.out (by decide))); replace HB := am (hb); have HO114 := am (ho); clear HO_5; clear ho hb hg hat; have hcz26_0 := ce0 BK101; have hcz26_1 := ce1 BK101; have hfz26_0 := bfz BK101 0; have hfz26_1 := bfz BK101 1; have p115 : 0 ≤ (x7_1 : Int) := of_decide_eq_true zl; have q115 : x7_1 < (l0_1.length : Int) := of_decide_eq_true zl; obtain ⟨ad115, e115, hx115_0, hx115_1⟩ := at_T38 HR0_1.out x7_1 p115 q115; obtain rfl : ad111 = ad115 := (by injection e115); replace hx115_0 := hcx HB hx115_0; replace hx115_1 := hcx HB hx115_1; replace p115 := eq_true p115; replace q115 := eq_true q115) | ((with_reducible refine gate_builtin (b := .append) (xs := #[.tmp 33, .tmp 39]) rfl ?_); at_builtin; refine Kd.R_append k38 (w0 := w) w.heap.size rfl (.tmp 33) (.tmp 39) 29 38 (.agg #[(.string ⟨#[]⟩), (.slice none 0 0)]) 40 rfl Try.underlying29 info38 rfl (by decide) (by omega) v113 y112 (⟨(rd_T38 l0_1 x7_1).f0, (rd_T38 l0_1 x7_1).f1⟩ : S38) [.string ((rd_T38 l0_1 x7_1).f0), rawv ((rd_T38 l0_1 x7_1).f1)] (fun k_ => k_ ≠ gb102) (fun _ => False) rfl rfl ?aP (fun _ hk => hk.elim) ?aF ?aO ?aB ?aS ?aL ?_; (case aP => exact k38_mkM _ _ _ (⟨(rd_T38 l0_1 x7_1).f0, (rd_T38 l0_1 x7_1).f1⟩ : S38)); (case aB => exact (zb HB)); (case aF => exact (fun k_ hk => Kd.freshB (g := gb102) (o := .cells #[.string a1_0, rawv a1_1] 38 (0, 0)) (zk BK102) k_ hk)); (case aO => exact (zr HO114)); (case aS => exact (below_size (zb HB))); (case aL => have := LMc19.out; omega); intro v117 w27 ho hb hg hat; rw [← Ny116.out] at ho; replace BK101 := am (blk_grown (zk BK101) hg (Kd.R_ne HO114.out BK101.out (by decide))); replace BK102 := am (blk_grown (zk BK102) hg (Kd.R_away HO114.out (fun _ hk => hk))); replace BK103 := am (blk_grown (zk BK103) hg (Kd.R_ne HO114.out BK103.out (by decide))); replace HB := am (hb); have HO118 := am (ho); clear HO114; clear ho hb hg hat)))
   go_roundg k1
   case measure => have := HK1.out; omega
   case rel => exact ⟨(y116), (true), (wrap64 (x7_1 + 1)), ze, ze, H', ⟨by have := HK1.out; omega⟩, ⟨zr HO118⟩, ⟨zk BK101⟩, ⟨zk BK102⟩, ⟨zk BK103⟩, ⟨zb HB⟩⟩
end Go.Proofs.Ytooamacekmjpaaa.PRawAdd
