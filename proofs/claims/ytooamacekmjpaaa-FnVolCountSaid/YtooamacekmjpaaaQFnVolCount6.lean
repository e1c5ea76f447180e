/- The walk: each function that the law comes to as a plain Lean function, and a proof that the Go code answers so. Written by this session's program over the kit's printer. -/
import Derived.Test.YtooamacekmjpaaaZ
import Derived.Test.YtooamacekmjpaaaQFnVolCount0
import Derived.Test.YtooamacekmjpaaaQFnVolCount1
import Derived.Test.YtooamacekmjpaaaQFnVolCount2
import Derived.Test.YtooamacekmjpaaaQFnVolCount4
import Derived.Test.YtooamacekmjpaaaQFnVolCount5
namespace Go.Proofs.Ytooamacekmjpaaa.PFnVolCount
open Go.RowKit Go.Proofs.YtooamacekmjpaaaW.PrintWords Go.Proofs.YtooamacekmjpaaaW.PrintLast Go.Proofs.YtooamacekmjpaaaW.PrintMore
attribute [local go_sem] max2_int min2_int max_two min_two max_three min_three max_four min_four   -- for this text's walks alone
set_option linter.unusedVariables false
set_option linter.unusedSimpArgs false
/-! ### spec_l11Gone: function 91 -/
def spec_l11Gone.l0 : Nat → Int → Int → List (S55) → List (S38) → Option ((List (S55)) × (List (S38)) × Bool)
 | 0, _, _, _, _ => none
 | k + 1, x6, x7, x245000, x245001 => if 0 ≤ x6 then (if x6 < (x245001.length : Int) then (if x7 < (((rd_T38 x245001 x6).f1).length : Int) then (if 0 ≤ x7 then (if (rd ((rd_T38 x245001 x6).f1) x7) > 0 then ((spec_l2Drop.f x245000 (rd ((rd_T38 x245001 x6).f1) x7)).bind fun t252 => (spec_l11Gone.l0 k x6 (wrap64 (x7 + 1)) t252 x245001)) else (spec_l11Gone.l0 k x6 (wrap64 (x7 + 1)) x245000 x245001)) else (none)) else (if x245001.length < 1000000000000 then (some (x245000, x245001.take (x6 : Int).toNat ++ x245001.drop ((x6 : Int).toNat + 1), true)) else none)) else (none)) else (none)
def spec_l11Gone.f (k : Nat) (l0_0 : List (S55)) (l0_1 : List (S38)) (a1 : ByteArray) : Option ((List (S55)) × (List (S38)) × Bool) := (spec_l11At.f k l0_0 l0_1 a1).bind fun t246 => (if t246 < 0 then (some (l0_0, l0_1, false)) else (spec_l11Gone.l0 k t246 0 l0_0 l0_1))
theorem spec_l11Gone.mono_l : ∀ k, (∀ y0 y1 y2 y3, LeO (spec_l11Gone.l0 k y0 y1 y2 y3) (spec_l11Gone.l0 (k + 1) y0 y1 y2 y3))
 | 0 => fun _ _ _ _ r h => by simp [spec_l11Gone.l0] at h
 | k + 1 => by
  have ih0 := spec_l11Gone.mono_l k
  intro y0 y1 y2 y3
  unfold spec_l11Gone.l0
  exact mo2 ih0 @spec_l11At.mono
theorem spec_l11Gone.mono : ∀ a0 a1 a2 k, LeO (spec_l11Gone.f k a0 a1 a2) (spec_l11Gone.f (k + 1) a0 a1 a2) := by
 intro a0 a1 a2 k
 have ih0 := spec_l11Gone.mono_l k
 unfold spec_l11Gone.f
 exact mo2 ih0 @spec_l11At.mono
def spec_l11Gone.T8 : Bool × List (List Nat × List Nat) := (true, [([], []), ([0], [0]), ([], []), ([2], [2]), ([], []), ([3, 4], [3, 4]), ([5], [5]), ([6], [6]), ([], []), ([7, 8], [7, 8]), ([9], [9]), ([1, 10], [1, 10]), ([0, 1, 2, 3, 4, 5, 6, 7, 8, 9, 10, 11], []), ([12, 11, 11, 0, 1, 2, 3, 4, 5, 6, 7, 8, 9, 10, 11], [11, 12])])
def spec_l11Gone.B8 : List Nat := [0, 1, 0, 4, 0, 28, 60, 124, 0, 508, 1020, 2047, 4095, 8191]
theorem spec_l11Gone.tab8 : rtab .any (opsOf Try.f91 8) = spec_l11Gone.T8 := by kernel_rfl
theorem spec_l11Gone.bits8 : waitsOk spec_l11Gone.T8.2 spec_l11Gone.B8 = true := by kernel_rfl
def spec_l11Gone.T9 : Bool × List (List Nat × List Nat) := (true, [([], []), ([], []), ([1], [1]), ([], []), ([2, 3], [2, 3]), ([0, 4], [0, 4]), ([], []), ([6], [6]), ([], []), ([8], [8]), ([7, 9], [7, 9]), ([5, 10, 5], [5, 10]), ([0, 1, 2, 3, 4, 5, 6, 7, 8, 9, 10, 11], []), ([12, 11, 11, 0, 1, 2, 3, 4, 5, 6, 7, 8, 9, 10, 11], [11, 12])])
def spec_l11Gone.B9 : List Nat := [0, 0, 2, 0, 14, 31, 0, 64, 0, 256, 960, 2047, 4095, 8191]
theorem spec_l11Gone.tab9 : rtab .any (opsOf Try.f91 9) = spec_l11Gone.T9 := by kernel_rfl
theorem spec_l11Gone.bits9 : waitsOk spec_l11Gone.T9.2 spec_l11Gone.B9 = true := by kernel_rfl
set_option maxHeartbeats 8000000 in
set_option maxRecDepth 100000 in
theorem spec_l11Gone.calls (k : Nat) (P0_0_ : Nat → Prop) (u9000_ : Value) (l0_0 : List (S55)) (A0_1 : Option Addr) (c0_1 : Nat) (l0_1 : List (S38)) (a1 : ByteArray) (r1 : List (S55)) (r2 : List (S38)) (r3 : Bool) (w0 w : World) (hB : Below w0.heap.size w0 w) (ho0_0 : Kd.R k55 55 w w0.heap.size P0_0_ u9000_ l0_0) (hr0_1 : ∀ W_, Kept w W_ (fun k_ => P0_0_ k_) → Kd.C k38 W_ A0_1 l0_1.length l0_1) (hc0_1 : l0_1.length ≤ c0_1) (hq0_1 : Kd.S k38 38 w w0.heap.size (fun k_ => ¬ (P0_0_ k_)) (.slice A0_1 l0_1.length c0_1) l0_1) (h : spec_l11Gone.f k l0_0 l0_1 a1 = some (r1, r2, r3)) :
 Calls Try.prog 91 #[.agg #[u9000_, .slice A0_1 l0_1.length c0_1], .string a1] w fun e w' => ∃ v0_ v1_ : Value, e = .returned (.tuple #[.agg #[v0_, v1_], .bool r3]) ∧ Kd.R k55 55 w' w0.heap.size (fun k_ => (P0_0_ k_ ∨ w.heap.size ≤ k_)) v0_ r1 ∧ Kd.S k38 38 w' w0.heap.size (fun _ => True) v1_ r2 ∧ Below w0.heap.size w0 w' ∧ Kept w w' (fun k_ => P0_0_ k_) := by
 have hu31 := Try.underlying31
 have HO0_0 := am (show Kd.R k55 55 w w0.heap.size (fun k_ => (P0_0_ k_ ∨ w.heap.size ≤ k_)) u9000_ l0_0 from Kd.R_mono ho0_0 (fun k_ hk => (.inl hk)))
 have HR0_1 := am hr0_1
 have HC0_1 := am hc0_1
 clear hr0_1 hc0_1
 have HK := am (Kept.refl w (fun k_ => P0_0_ k_))
 have HW0 := am hB.size
 have HB := am hB
 clear hB
 have H : ((spec_l11At.f k l0_0 l0_1 a1).bind fun t246 => (if t246 < 0 then (some (l0_0, l0_1, false)) else (spec_l11Gone.l0 k t246 0 l0_0 l0_1))) = some (r1, r2, r3) := h
 clear h
 replace H := obs H
 obtain ⟨t246, A30, H⟩ := H
 replace H : (if t246 < 0 then (some (l0_0, l0_1, false)) else (spec_l11Gone.l0 k t246 0 l0_0 l0_1)) = some (r1, r2, r3) := H
 have A3 := am A30
 clear A30
 by_cases c4 : t246 < 0
 · rw [if_pos c4] at H
   have c4b0 : decide (t246 < 0) = true := decide_eq_true c4
   clear c4
   simp only [Option.some.injEq, Prod.mk.injEq] at H
   obtain ⟨rfl, rfl, rfl⟩ := H
   obtain ⟨Ao5, co5, eo5⟩ := Kd.R_slice HO0_0.out
   subst eo5
   go_enter Try.func91, Try.ntmps91
   go_wp2_with (first | ((with_reducible refine gate_dst (N := 2) rfl ?_); refine bx 31 #[.slice Ao5 l0_0.length co5, .slice A0_1 l0_1.length c0_1] ?_; intro gb244 hg w6 hbox hb; replace HO0_0 := am (Kd.R_below (zr HO0_0) hb); have BK244 := am (hbox); have GW244 := am ((by rw [hg]; exact (by first | exact HK.out.1 | exact (show Kept w _ (fun k_ => P0_0_ k_) from (zq HK)).1) : w.heap.size ≤ gb244)); replace HK := am (Kept.below (S := (fun k_ => P0_0_ k_)) (zq HK) hb); have GE244 := am (zn hg (zb HB)); replace HB := am (below_step (zb HB) hb); clear hb hbox hg) | ((with_reducible refine gate_dst (N := 4) rfl ?_); refine bx 31 #[.slice none 0 0, .slice none 0 0] ?_; intro gb245 hg w7 hbox hb; replace HO0_0 := am (Kd.R_below (zr HO0_0) hb); have BK245 := am (hbox); have GW245 := am ((by rw [hg]; exact (by first | exact HK.out.1 | exact (show Kept w _ (fun k_ => P0_0_ k_) from (zq HK)).1) : w.heap.size ≤ gb245)); replace HK := am (Kept.below (S := (fun k_ => P0_0_ k_)) (zq HK) hb); have GE245 := am (zn hg (zb HB)); replace HB := am (below_step (zb HB) hb); have NB244_245 := am (zx hg (zk BK244)); have NB245_244 := am (zy hg (zk BK244)); replace BK244 := am (blk_below (zk BK244) hb); clear hb hbox hg; have hnb8 := NB244_245.out; have hnc8 := NB245_244.out; have hcz9_0 := ce0 BK244; have hcz9_1 := ce1 BK244; have hfz9_0 := bfz BK244 0; have hfz9_1 := bfz BK244 1) | ((with_reducible refine gate_callee (f := 57) rfl ?_); refine gl Try.func57 10 #[.agg #[.slice Ao5 l0_0.length co5, .slice A0_1 l0_1.length c0_1], .string a1] rfl rfl rfl ?_; (with_reducible refine (spec_l11At.calls k _ _ l0_0 _ _ l0_1 a1 t246 _ ?side1 ?side2 ?side3 ?side4 A3.out).mono ?_); (case side1 => exact zc (Kd.R_reads' HO0_0.out).2.2); (case side2 => exact (Kd.R_reads' HO0_0.out).2.1); (case side3 => exact Kd.C_kept_now HR0_1.out (zq HK)); (case side4 => exact HC0_1.out); rintro e w10 ⟨rfl, hb⟩; refine ⟨_, rfl, ?_⟩; replace HO0_0 := am (Kd.R_below (zr HO0_0) hb); replace BK244 := am (blk_below (zk BK244) hb); replace BK245 := am (blk_below (zk BK245) hb); replace HK := am (Kept.below (S := (fun k_ => P0_0_ k_)) (zq HK) hb); replace HB := am (below_step (zb HB) hb); (try clear hb); (try clear hb2); (try clear hk); (try clear hi); have hcz11_0 := ce0 BK244; have hcz11_1 := ce1 BK244; have hfz11_0 := bfz BK244 0; have hfz11_1 := bfz BK244 1; have hcz12_0 := ce0 BK245; have hcz12_1 := ce1 BK245; have hfz12_0 := bfz BK245 0; have hfz12_1 := bfz BK245 1))
   refine bodyPost_ret (results_ct rfl _ _ gb245 31 #[.slice Ao5 l0_0.length co5, .slice A0_1 l0_1.length c0_1] (0, 0) _ rfl (zp BK245) Try.underlying31 rfl (by kernel_rfl)) rfl ?_
   exact ⟨_, _, zw, (rf HO0_0 BK245), (Kd.S_mono (Kd.S_kept hq0_1 (zq HK) (fun k_ hk h_ => hk h_)) (fun _ _ => trivial)), (zb HB), (zq HK)⟩
 rw [if_neg c4] at H
 have c4b0 : decide (t246 < 0) = false := decide_eq_false c4
 clear c4
 have H' := am H
 clear H
 obtain ⟨Ao13, co13, eo13⟩ := Kd.R_slice HO0_0.out
 subst eo13
 go_enter Try.func91, Try.ntmps91
 go_wp2_with (first | ((with_reducible refine gate_dst (N := 2) rfl ?_); refine bx 31 #[.slice Ao13 l0_0.length co13, .slice A0_1 l0_1.length c0_1] ?_; intro gb244 hg w14 hbox hb; replace HO0_0 := am (Kd.R_below (zr HO0_0) hb); have BK244 := am (hbox); have GW244 := am ((by rw [hg]; exact (by first | exact HK.out.1 | exact (show Kept w _ (fun k_ => P0_0_ k_) from (zq HK)).1) : w.heap.size ≤ gb244)); replace HK := am (Kept.below (S := (fun k_ => P0_0_ k_)) (zq HK) hb); have GE244 := am (zn hg (zb HB)); replace HB := am (below_step (zb HB) hb); clear hb hbox hg) | ((with_reducible refine gate_dst (N := 4) rfl ?_); refine bx 31 #[.slice none 0 0, .slice none 0 0] ?_; intro gb245 hg w15 hbox hb; replace HO0_0 := am (Kd.R_below (zr HO0_0) hb); have BK245 := am (hbox); have GW245 := am ((by rw [hg]; exact (by first | exact HK.out.1 | exact (show Kept w _ (fun k_ => P0_0_ k_) from (zq HK)).1) : w.heap.size ≤ gb245)); replace HK := am (Kept.below (S := (fun k_ => P0_0_ k_)) (zq HK) hb); have GE245 := am (zn hg (zb HB)); replace HB := am (below_step (zb HB) hb); have NB244_245 := am (zx hg (zk BK244)); have NB245_244 := am (zy hg (zk BK244)); replace BK244 := am (blk_below (zk BK244) hb); clear hb hbox hg; have hnb16 := NB244_245.out; have hnc16 := NB245_244.out; have hcz17_0 := ce0 BK244; have hcz17_1 := ce1 BK244; have hfz17_0 := bfz BK244 0; have hfz17_1 := bfz BK244 1) | ((with_reducible refine gate_callee (f := 57) rfl ?_); refine gl Try.func57 10 #[.agg #[.slice Ao13 l0_0.length co13, .slice A0_1 l0_1.length c0_1], .string a1] rfl rfl rfl ?_; (with_reducible refine (spec_l11At.calls k _ _ l0_0 _ _ l0_1 a1 t246 _ ?side1 ?side2 ?side3 ?side4 A3.out).mono ?_); (case side1 => exact zc (Kd.R_reads' HO0_0.out).2.2); (case side2 => exact (Kd.R_reads' HO0_0.out).2.1); (case side3 => exact Kd.C_kept_now HR0_1.out (zq HK)); (case side4 => exact HC0_1.out); rintro e w18 ⟨rfl, hb⟩; refine ⟨_, rfl, ?_⟩; replace HO0_0 := am (Kd.R_below (zr HO0_0) hb); replace BK244 := am (blk_below (zk BK244) hb); replace BK245 := am (blk_below (zk BK245) hb); replace HK := am (Kept.below (S := (fun k_ => P0_0_ k_)) (zq HK) hb); replace HB := am (below_step (zb HB) hb); (try clear hb); (try clear hb2); (try clear hk); (try clear hi)))
 go_loopg [7] k (fun kq v7 w' => ∃ (x7_1 : Int) (x245000_1 : List (S55)) (u245000 : Value), v7 = .int .i64 x7_1 ∧ Aside0 (spec_l11Gone.l0 kq t246 x7_1 x245000_1 l0_1 = some (r1, r2, r3)) ∧ Aside0 (kq ≤ k) ∧ Aside0 (Kd.R k55 55 w' w0.heap.size (fun k_ => (P0_0_ k_ ∨ w.heap.size ≤ k_)) u245000 x245000_1) ∧ Aside0 (w'.heap[gb244]? = some (.cells #[u245000, (.slice A0_1 l0_1.length c0_1)] 31 (0, 0))) ∧ Aside0 (w'.heap[gb245]? = some (.cells #[(.slice none 0 0), (.slice none 0 0)] 31 (0, 0))) ∧ Aside0 (Kept w w' (fun k_ => P0_0_ k_)) ∧ Aside0 (Below w0.heap.size w0 w'))
 case atStart => exact ⟨(0), (l0_0), (.slice Ao13 l0_0.length co13), ze, H', ⟨Nat.le_refl _⟩, ⟨zr HO0_0⟩, ⟨zk BK244⟩, ⟨zk BK245⟩, ⟨zq HK⟩, ⟨zb HB⟩⟩
 case round =>
  clear H'
  try clear c1
  try clear p2
  try clear c4
  try clear c4b0
  try clear c5
  try clear c8
  try clear c9
  try clear c16
  try clear hcz11_0
  try clear hcz11_1
  try clear hcz12_0
  try clear hcz12_1
  try clear hcz17_0
  try clear hcz17_1
  try clear hcz9_0
  try clear hcz9_1
  try clear hfz11_0
  try clear hfz11_1
  try clear hfz12_0
  try clear hfz12_1
  try clear hfz17_0
  try clear hfz17_1
  try clear hfz9_0
  try clear hfz9_1
  obtain ⟨x7_1, x245000_1, u245000, rfl, HA, HK1, HO_245000, BK244, BK245, HK, HB⟩ := hrel
  cases gk with
  | zero => exact absurd HA.out (by simp [spec_l11Gone.l0])
  | succ k1 =>
   have H := HA.out
   clear HA
   simp only [spec_l11Gone.l0] at H
   by_cases c19 : 0 ≤ t246
   rotate_left
   · rw [if_neg c19] at H
     exact absurd H (by simp)
   rw [if_pos c19] at H
   have c19b0 : decide (0 ≤ t246) = true := decide_eq_true c19
   clear c19
   by_cases c20 : t246 < (l0_1.length : Int)
   rotate_left
   · rw [if_neg c20] at H
     exact absurd H (by simp)
   rw [if_pos c20] at H
   have c20b0 : decide (t246 < (l0_1.length : Int)) = true := decide_eq_true c20
   clear c20
   by_cases c21 : x7_1 < (((rd_T38 l0_1 t246).f1).length : Int)
   · rw [if_pos c21] at H
     have c21b0 : decide (x7_1 < (((rd_T38 l0_1 t246).f1).length : Int)) = true := decide_eq_true c21
     clear c21
     by_cases c22 : 0 ≤ x7_1
     rotate_left
     · rw [if_neg c22] at H
       exact absurd H (by simp)
     rw [if_pos c22] at H
     have c22b0 : decide (0 ≤ x7_1) = true := decide_eq_true c22
     clear c22
     by_cases c23 : (rd ((rd_T38 l0_1 t246).f1) x7_1) > 0
     rotate_left
     · rw [if_neg c23] at H
       have c23b0 : decide (0 < (rd ((rd_T38 l0_1 t246).f1) x7_1)) = false := decide_eq_false c23
       clear c23
       have H' := am H
       clear H
       have hnb32 := NB244_245.out
       have hnc32 := NB245_244.out
       have hcz33_0 := ce0 BK244
       have hcz33_1 := ce1 BK244
       have hfz33_0 := bfz BK244 0
       have hfz33_1 := bfz BK244 1
       have p247 : 0 ≤ (t246 : Int) := of_decide_eq_true zl
       have q247 : t246 < (l0_1.length : Int) := of_decide_eq_true zl
       obtain ⟨ad247, A247_1, c247_1, e247, hx247_0, hx247_1, hl247_1, hi247_1⟩ := at_T38 (Kd.C_kept_now HR0_1.out HK.out) t246 p247 q247
       cases e247
       have HR247_1 := am hi247_1
       have HC247_1 := am hl247_1
       clear hi247_1 hl247_1
       replace p247 := eq_true p247
       replace q247 := eq_true q247
       have p248 : 0 ≤ (t246 : Int) := of_decide_eq_true zl
       have q248 : t246 < (l0_1.length : Int) := of_decide_eq_true zl
       obtain ⟨ad248, A248_1, c248_1, e248, hx248_0, hx248_1, hl248_1, hi248_1⟩ := at_T38 (Kd.C_kept_now HR0_1.out HK.out) t246 p248 q248
       obtain rfl : ad247 = ad248 := (by injection e248)
       have HR248_1 := am hi248_1
       have HC248_1 := am hl248_1
       clear hi248_1 hl248_1
       replace p248 := eq_true p248
       replace q248 := eq_true q248
       have ea_ := Option.some.inj (hx247_1.symm.trans hx248_1)
       injection ea_ with ea_ en_ ec_
       subst ea_
       subst ec_
       clear en_
       have p249 : 0 ≤ (x7_1 : Int) := of_decide_eq_true zl
       have q249 : x7_1 < (((rd_T38 l0_1 t246).f1).length : Int) := of_decide_eq_true zl
       obtain ⟨ad249, e249, hx249_0⟩ := Kd.at_int (zc HR248_1.out) x7_1 p249 q249
       cases e249
       replace p249 := eq_true p249
       replace q249 := eq_true q249
       go_wp2
       go_roundg k1
       case measure => have := HK1.out; omega
       case rel => exact ⟨(wrap64 (x7_1 + 1)), (x245000_1), (u245000), ze, H', ⟨by have := HK1.out; omega⟩, ⟨zr HO_245000⟩, ⟨zk BK244⟩, ⟨zk BK245⟩, ⟨zq HK⟩, ⟨zb HB⟩⟩
     rw [if_pos c23] at H
     have c23b0 : decide (0 < (rd ((rd_T38 l0_1 t246).f1) x7_1)) = true := decide_eq_true c23
     clear c23
     replace H := obs H
     obtain ⟨t252, A240, H⟩ := H
     replace H : (spec_l11Gone.l0 k1 t246 (wrap64 (x7_1 + 1)) t252 l0_1) = some (r1, r2, r3) := H
     have A24 := am A240
     clear A240
     have H' := am H
     clear H
     have hnb25 := NB244_245.out
     have hnc25 := NB245_244.out
     have hcz26_0 := ce0 BK244
     have hcz26_1 := ce1 BK244
     have hfz26_0 := bfz BK244 0
     have hfz26_1 := bfz BK244 1
     have p247 : 0 ≤ (t246 : Int) := of_decide_eq_true zl
     have q247 : t246 < (l0_1.length : Int) := of_decide_eq_true zl
     obtain ⟨ad247, A247_1, c247_1, e247, hx247_0, hx247_1, hl247_1, hi247_1⟩ := at_T38 (Kd.C_kept_now HR0_1.out HK.out) t246 p247 q247
     cases e247
     have HR247_1 := am hi247_1
     have HC247_1 := am hl247_1
     clear hi247_1 hl247_1
     replace p247 := eq_true p247
     replace q247 := eq_true q247
     have p248 : 0 ≤ (t246 : Int) := of_decide_eq_true zl
     have q248 : t246 < (l0_1.length : Int) := of_decide_eq_true zl
     obtain ⟨ad248, A248_1, c248_1, e248, hx248_0, hx248_1, hl248_1, hi248_1⟩ := at_T38 (Kd.C_kept_now HR0_1.out HK.out) t246 p248 q248
     obtain rfl : ad247 = ad248 := (by injection e248)
     have HR248_1 := am hi248_1
     have HC248_1 := am hl248_1
     clear hi248_1 hl248_1
     replace p248 := eq_true p248
     replace q248 := eq_true q248
     have ea_ := Option.some.inj (hx247_1.symm.trans hx248_1)
     injection ea_ with ea_ en_ ec_
     subst ea_
     subst ec_
     clear en_
     have p249 : 0 ≤ (x7_1 : Int) := of_decide_eq_true zl
     have q249 : x7_1 < (((rd_T38 l0_1 t246).f1).length : Int) := of_decide_eq_true zl
     obtain ⟨ad249, e249, hx249_0⟩ := Kd.at_int (zc HR248_1.out) x7_1 p249 q249
     cases e249
     replace p249 := eq_true p249
     replace q249 := eq_true q249
     try go_wp2
     replace HO_245000 := am (Kd.R_drew HO_245000.out)
     replace BK244 := am (blk_drew BK244.out)
     replace BK245 := am (blk_drew BK245.out)
     replace HR247_1 := am (Kd.C_drew HR247_1.out)
     replace HR248_1 := am (Kd.C_drew HR248_1.out)
     replace HK := am (Kept.drew HK.out)
     replace HB := am (below_drew1 HB.out)
     have p250 : 0 ≤ (t246 : Int) := of_decide_eq_true zl
     have q250 : t246 < (l0_1.length : Int) := of_decide_eq_true zl
     obtain ⟨ad250, A250_1, c250_1, e250, hx250_0, hx250_1, hl250_1, hi250_1⟩ := at_T38 (Kd.C_kept_now HR0_1.out HK.out) t246 p250 q250
     have hw250_1 := hx250_1
     have hw250_0 := hx250_0
     obtain rfl : ad247 = ad250 := (by injection e250)
     have HR250_1 := am hi250_1
     have HC250_1 := am hl250_1
     clear hi250_1 hl250_1
     replace p250 := eq_true p250
     replace q250 := eq_true q250
     have p251 : 0 ≤ (x7_1 : Int) := of_decide_eq_true zl
     have q251 : x7_1 < (((rd_T38 l0_1 t246).f1).length : Int) := of_decide_eq_true zl
     obtain ⟨ad251, e251, hx251_0⟩ := Kd.at_int (zc HR250_1.out) x7_1 p251 q251
     cases e251
     replace p251 := eq_true p251
     replace q251 := eq_true q251
     obtain ⟨Ao28, co28, eo28⟩ := Kd.R_slice HO_245000.out
     (first | subst eo28 | (injection eo28 with f1_ f2_ f3_; have f4_ := f1_.symm; have f5_ := f3_.symm; clear f1_ f2_ f3_; subst f4_; subst f5_))
     refine start_ (n := 14) (S := fun w' => w'.cell? ⟨gb244, 0, none⟩ = some (.slice Ao28 x245000_1.length co28) ∧ w'.cell? ⟨gb244, 1, none⟩ = some (.slice (some ad247) l0_1.length c0_1) ∧ w'.cell? (ad247.add ((t246).toNat * 2)) = some (.string ((rd_T38 l0_1 t246).f0)) ∧ w'.cell? ⟨(ad247.add ((t246).toNat * 2)).block, (ad247.add ((t246).toNat * 2)).off + 1, none⟩ = some (.slice (some ad251) ((rd_T38 l0_1 t246).f1).length c250_1) ∧ w'.cell? (ad251.add (x7_1).toNat) = some (.int .i64 (rd ((rd_T38 l0_1 t246).f1) x7_1))) (ds := [11, 13]) (bs 14 0) (by kernel_rfl) rfl rfl ⟨ce0 BK244, ce1 BK244, hx250_0, hx250_1, hx251_0⟩ (fun hHeld => ?_); refine with_tabW spec_l11Gone.tab8 spec_l11Gone.bits8 (fun HT_ HW_ => ?_)
     generalize wr.drew = w27 at HO_245000 BK244 BK245 HR247_1 HR248_1 HK HB HR250_1 hx250_0 hx250_1 hx251_0 hHeld ⊢
     refine pu 0 35 14 1 rfl rfl ?_
     refine pu 2 37 14 5 rfl rfl ?_
     refine pu 4 39 14 21 rfl rfl ?_
     refine pu 8 43 14 277 rfl rfl ?_
     refine ta5 1 36 14 279 rfl rfl hHeld ?_
     refine ta5 3 38 14 287 rfl rfl hHeld ?_
     refine pu 5 40 14 319 rfl rfl ?_
     refine pu 6 41 14 383 rfl rfl ?_
     refine ta5 7 42 14 511 rfl rfl hHeld ?_
     refine pu 9 44 14 1023 rfl rfl ?_
     refine ta5 10 45 14 2047 rfl rfl hHeld ?_
     refine la 11 14 4095 rfl rfl (fun K hK => ?_)
     refine gs Try.func96 #[.slice Ao28 x245000_1.length co28, .int .i64 (rd ((rd_T38 l0_1 t246).f1) x7_1)] rfl rfl ?_
     with_reducible refine (spec_l2Drop.calls (fun k_ => some k_ = (.slice Ao28 x245000_1.length co28 : Value).ownBlock) (.slice Ao28 x245000_1.length co28) x245000_1 (rd ((rd_T38 l0_1 t246).f1) x7_1) t252 w0 _ ?side1 ?side2 A24.out).mono ?_
     (case side1 => exact zb HB)
     (case side2 => exact Kd.R_tight rfl HO_245000.out)
     rintro e w29 ⟨v253, rfl, ho0, hb, hkp⟩
     refine ⟨_, rfl, ?_⟩
     replace BK244 := am (blk_kept (zk BK244) hkp (fun hs_ => (fun e_ => (Kd.R_ne HO_245000.out BK244.out (by decide)) e_) hs_))
     replace BK245 := am (blk_kept (zk BK245) hkp (fun hs_ => (fun e_ => (Kd.R_ne HO_245000.out BK245.out (by decide)) e_) hs_))
     have HO254 := am (Kd.R_mono (ok' := fun k_ => (P0_0_ k_ ∨ w.heap.size ≤ k_)) ho0 (fun k_ hk_ => Or.elim hk_ (fun hs_ => (HO_245000.out.1 k_ (hs_).symm)) (fun hn_ => (.inr (Nat.le_trans (by first | exact HK.out.1 | exact (show Kept w _ (fun k_ => P0_0_ k_) from (zq HK)).1) hn_)))))
     replace HK := am (Kept.then_ (S := (fun k_ => P0_0_ k_)) (zq HK) hkp (fun k_ hs_ => (fun e_ => (HO_245000.out.1 k_ e_.symm)) hs_))
     replace HB := am (hb)
     clear HO_245000
     (try clear hb)
     (try clear hkp)
     (try clear ho0)
     obtain ⟨Ao30, co30, eo30⟩ := Kd.R_slice HO254.out
     (first | subst eo30 | (injection eo30 with f1_ f2_ f3_; have f4_ := f1_.symm; have f5_ := f3_.symm; clear f1_ f2_ f3_; subst f4_; subst f5_))
     refine hK.out _ _ ?_
     clear hK K
     refine norm_ (a' := ?_) ?_ ?_
     rotate_left
     · show Act.put _ (some 46) _ = _
       simp only [Act.put, List.setIfInBounds_toArray, List.set_cons_zero, List.set_cons_succ, i64_w, i32_w]
       rfl
     refine pu 12 47 14 8191 rfl rfl ?_
     refine la 13 14 16383 rfl rfl (fun K hK => ?_)
     have hs31 := ce0 BK244
     have hfs31 := bfz BK244 0
     have hns31_1 := NB245_244.out
     have hms31_1 := NB244_245.out
     refine skip_ (w1 := ?_) (by rfl) rfl ?_ ?_
     rotate_left
     · go_simp
       rfl
     refine hK.out _ _ ?_
     clear hK K
     refine done_ (done_of HT_.out (by kernel_rfl)) ?_
     try go_wp2
     go_roundg k1
     case measure => have := HK1.out; omega
     case rel => exact ⟨(wrap64 (x7_1 + 1)), (t252), (.slice Ao30 t252.length co30), ze, H', ⟨by have := HK1.out; omega⟩, ⟨by (with_reducible repeat (first | apply Kd.R_alloc | apply Kd.R_drewN | apply Kd.R_drew)); exact Kd.R_mono (Kd.R_far (p := ⟨gb244, 0, none⟩) (Kd.R_types HO254.out BK244.out (by decide)) (fun _ hk => by first | exact hk.2 | trivial) (.slice Ao30 t252.length co30)) (fun _ hk => by first | exact hk.1 | trivial)⟩, ⟨zp BK244⟩, ⟨zk BK245⟩, ⟨zq HK⟩, ⟨zb HB⟩⟩
   rw [if_neg c21] at H
   have c21b0 : decide (x7_1 < (((rd_T38 l0_1 t246).f1).length : Int)) = false := decide_eq_false c21
   clear c21
   by_cases cq : l0_1.length < 1000000000000
   case neg =>
    rw [if_neg cq] at H
    exact absurd H (by simp)
   rw [if_pos cq] at H
   simp only [Option.some.injEq, Prod.mk.injEq] at H
   obtain ⟨rfl, rfl, rfl⟩ := H
   have hnb34 := NB244_245.out
   have hnc34 := NB245_244.out
   have hcz35_0 := ce0 BK244
   have hcz35_1 := ce1 BK244
   have hfz35_0 := bfz BK244 0
   have hfz35_1 := bfz BK244 1
   have p247 : 0 ≤ (t246 : Int) := of_decide_eq_true zl
   have q247 : t246 < (l0_1.length : Int) := of_decide_eq_true zl
   obtain ⟨ad247, A247_1, c247_1, e247, hx247_0, hx247_1, hl247_1, hi247_1⟩ := at_T38 (Kd.C_kept_now HR0_1.out HK.out) t246 p247 q247
   cases e247
   have HR247_1 := am hi247_1
   have HC247_1 := am hl247_1
   clear hi247_1 hl247_1
   replace p247 := eq_true p247
   replace q247 := eq_true q247
   obtain ⟨Ao36, co36, eo36⟩ := Kd.R_slice HO_245000.out
   subst eo36
   have hcz37_0 := ce0 BK245
   have hcz37_1 := ce1 BK245
   have hfz37_0 := bfz BK245 0
   have hfz37_1 := bfz BK245 1
   go_wp2
   have hk0 : 0 ≤ (t246 : Int) := of_decide_eq_true (by assumption)
   have hk1 : t246 < (l0_1.length : Int) := of_decide_eq_true (by assumption)
   have hqr := Kd.S_kept (Kd.S_bound hq0_1) HK.out (fun k_ hk h_ => hk.1 h_)
   obtain ⟨hs, okj, hhl, hRW, hap, hokj, hrow⟩ := PRawAdd.S_open (π := fun x : S38 => (x.f0, x.f1)) hqr
   obtain ⟨Z, hZ⟩ : ∃ Z, Z = ((l0_1.zip hs).map fun t => (⟨t.1.f0, t.2⟩ : PRawAdd.S38)) := ⟨_, rfl⟩
   have hZl : Z.length = l0_1.length := by rw [hZ]; simp [hhl]
   have hRZ := PRawAdd.R_iso_in (d := Kd.pair Kd.string PRawAdd.rawK) (xs := Z) (fun x : PRawAdd.S38 => (x.f0, x.f1)) (by
    have e : Z.map (fun x : PRawAdd.S38 => (x.f0, x.f1)) = (l0_1.zip hs).map (fun t => ((t.1.f0, t.1.f1).1, t.2)) := by rw [hZ]; simp
    rw [e]
    exact hRW)
   have hrdZ := Kd.R_reads' hRZ
   have HRz : Aside0 (Kd.C PRawAdd.k38 wr (some ad247) Z.length Z) := ⟨hrdZ.2.2⟩
   have HCz := am (show Z.length ≤ c0_1 from by have := hrdZ.1; have := hrdZ.2.1; omega)
   have BKp := am (show wr.heap[gb244]? = some (.cells #[.slice Ao36 x245000_1.length co36, .slice (some ad247) Z.length c0_1] 31 (0, 0)) from by rw [hZl]; exact BK244.out)
   have BKr := am BK245.out
   have HBr := am (Below.refl wr.heap.size wr)
   obtain ⟨y106, hy106⟩ : ∃ y_ : List PRawAdd.S38, y_ = [] := ⟨_, rfl⟩
   have Ny106 := am hy106
   have c12b0 := eq_true hk0
   have c12b1 : decide (0 ≤ t246) = true := decide_eq_true hk0
   have c13b1 : decide (t246 ≤ (Z.length : Int)) = true := decide_eq_true (by omega)
   obtain ⟨y109, hy109⟩ : ∃ y_ : List PRawAdd.S38, y_ = (Z.take (t246 : Int).toNat) := ⟨_, rfl⟩
   have Ny109 := am hy109
   have LMc14 := am (show y106.length + y109.length < 3518437208883 from by rw [hy106, hy109]; simp; omega)
   obtain ⟨y113, hy113⟩ : ∃ y_ : List PRawAdd.S38, y_ = (y106 ++ y109) := ⟨_, rfl⟩
   have Ny113 := am hy113
   obtain ⟨ji15, hji15⟩ : ∃ j_ : Int, (wrap64 (t246 + 1)) = j_ := ⟨_, rfl⟩
   have hji15w : (IntKind.i64.wrap (t246 + 1)) = ji15 := (i64_w _).trans hji15
   have hj1 : ji15 = t246 + 1 := by rw [← hji15]; unfold wrap64; omega
   have c16b1 : decide (0 ≤ (ji15)) = true := decide_eq_true (by omega)
   have c17b1 : decide ((ji15) ≤ (Z.length : Int)) = true := decide_eq_true (by omega)
   obtain ⟨y116, hy116⟩ : ∃ y_ : List PRawAdd.S38, y_ = (Z.drop ((ji15) : Int).toNat) := ⟨_, rfl⟩
   have Ny116 := am hy116
   have LMc18 := am (show y113.length + y116.length < 3518437208883 from by rw [hy113, hy106, hy109, hy116]; simp; omega)
   obtain ⟨y120, hy120⟩ : ∃ y_ : List PRawAdd.S38, y_ = (y113 ++ y116) := ⟨_, rfl⟩
   have Ny120 := am hy120
   have HZ := am hZ
   have HJ := am hj1
   have HL := am hZl
   have HHL := am hhl
   have HAP := am hap
   have HOKJ := am hokj
   have HROW := am hrow
   have HK0 := am hk0
   clear hy106 hy109 hy113 hy116 hy120 hZ hj1 hZl hhl hap hokj hrow hk0 hk1 hqr hRW hRZ hrdZ hji15 cq
   replace BKp := am (blk_drew BKp.out)
   replace BKr := am (blk_drew BKr.out)
   replace HBr := am (below_drew1 HBr.out)
   have q25 : (t246 : Int) ≤ ((Z.length : Int) : Int) := of_decide_eq_true zl
   obtain ⟨i025, hi025, _, hsz25, _⟩ := info_parts PRawAdd.info38
   have hroom25 : Z.length ≤ c0_1 := HCz.out
   have hC25 : Kd.C PRawAdd.k38 _ (some ad247) Z.length Z := HRz.out
   have hcut25 := cut_to (P := Try.prog) 29 38 .i64 Try.underlying29 hi025 (some ad247) Z.length c0_1 t246 (of_decide_eq_true zl) q25 hroom25
   have hr25 := Kd.C_take (m := (t246 : Int).toNat) hC25 (by omega)
   have hy25 : y109.length = (t246 : Int).toNat := (by rw [Ny109.out, List.length_take]; omega)
   rw [← Ny109.out] at hr25
   rw [← hy25] at hcut25
   have HR112 := am hr25
   have HC112 := am (show y109.length ≤ c0_1 from by omega)
   clear hr25 hC25 hroom25 hi025 hsz25
   have KY25 := am hy25
   clear hy25
   replace q25 := eq_true q25
   have q26 : ((ji15) : Int) ≤ ((Z.length : Int) : Int) := of_decide_eq_true zl
   obtain ⟨i026, hi026, _, hsz26, _⟩ := info_parts PRawAdd.info38
   have hroom26 : Z.length ≤ c0_1 := HCz.out
   have hC26 : Kd.C PRawAdd.k38 _ (some ad247) Z.length Z := HRz.out
   have q026 : (0 : Int) ≤ ((ji15) : Int) := of_decide_eq_true zl
   have hcut26 := cut_from (P := Try.prog) 29 38 .i64 Try.underlying29 hi026 2 hsz26 (some ad247) Z.length c0_1 (ji15) q026 q26
   have hr26 := Kd.C_drop (m := ((ji15) : Int).toNat) (c := c0_1) hC26 (by omega) hroom26
   obtain ⟨A26, hA26⟩ : ∃ A1, A1 = (if c0_1 = ((ji15) : Int).toNat then (some ad247) else ((some ad247) : Option Addr).map (·.add (((ji15) : Int).toNat * 2))) := ⟨_, rfl⟩
   obtain ⟨c26, hc26⟩ : ∃ c1, c1 = c0_1 - ((ji15) : Int).toNat := ⟨_, rfl⟩
   have hy26 : y116.length = Z.length - ((ji15) : Int).toNat := (by rw [Ny116.out, List.length_drop] <;> omega)
   rw [show (Z).drop ((ji15) : Int).toNat = y116 from Ny116.out.symm] at hr26
   replace hr26 : Kd.C PRawAdd.k38 _ A26 y116.length y116 := (by rw [hA26]; exact hr26)
   rw [← hy26, ← hA26, ← hc26] at hcut26
   have HR119 := am hr26
   have HC119 := am (show y116.length ≤ c26 from by rw [hy26, hc26]; exact Nat.sub_le_sub_right hroom26 _)
   clear hr26 hC26 hroom26 hi026 hsz26 hc26
   have KY26 := am hy26
   have KA26 := am hA26
   clear hy26 hA26
   replace q26 := eq_true q26
   refine start_ (n := 14) (S := fun w' => w'.cell? ⟨gb244, 0, none⟩ = some (.slice Ao36 x245000_1.length co36) ∧ w'.cell? ⟨gb244, 1, none⟩ = some (.slice (some ad247) Z.length c0_1)) (ds := [13]) (bs 14 0) (by kernel_rfl) rfl rfl ⟨ce0 BKp, ce1 BKp⟩ (fun hHeld => ?_); refine with_tabW spec_l11Gone.tab9 spec_l11Gone.bits9 (fun HT_ HW_ => ?_)
   generalize wr.drew = w24 at BKp BKr HBr HR112 HR119 hHeld ⊢
   refine pu 1 49 14 2 rfl rfl ?_
   refine pu 3 51 14 10 rfl rfl ?_
   refine pu 6 54 14 74 rfl rfl ?_
   refine pu 8 56 14 330 rfl rfl ?_
   refine pu 9 57 14 842 rfl rfl ?_
   refine ta2 2 50 14 846 rfl rfl hHeld ?_
   refine pu 4 52 14 862 rfl rfl ?_
   refine ta2 7 55 14 990 rfl rfl hHeld ?_
   refine pu 10 58 14 2014 rfl rfl ?_
   refine oz 0 14 2015 rfl rfl (fun K hK => ?_)
   refine Kd.R_lit_step PRawAdd.k38 _ 38 ?hg (N := 48) ?hd (xs := ([] : List (PRawAdd.S38))) (inner := []) (ok := fun _ => True) (okp := fun _ => True) ?hr ?hp (fun _ hk => hk) trivial (Below.refl _ _) (Nat.le_refl _) (by simp) ?_; (case hd => rfl); (case hg => rfl); (case hr => first | (go_simp; done) | (go_simp; rfl)); (case hp => exact (Reps.none _ _))
   intro v107 w27 ho28 hb hg_ hnew_
   clear hg_ hnew_
   (first | rw [← Ny106.out] at ho28 | (simp only [Int.reduceToNat] at ho28; rw [← Ny106.out] at ho28))
   have HO108 := am (Kd.R_lower ho28 (below_size (zb HBr)))
   replace BKp := am (blk_below (zk BKp) hb)
   replace BKr := am (blk_below (zk BKr) hb)
   replace HBr := am (below_step (zb HBr) hb)
   clear hb ho28
   refine hK.out _ _ ⟨ce0 BKp, ce1 BKp⟩ (fun hHeld => ?_)
   clear hK K
   refine norm_ (a' := ?_) ?_ ?_
   rotate_left
   · show Act.put _ (some 48) _ = _
     simp only [Act.put, List.setIfInBounds_toArray, List.set_cons_zero, List.set_cons_succ, i64_w, i32_w]
     rfl
   refine oz 5 14 2047 rfl rfl (fun K hK => ?_)
   refine Kd.R_append_rows_step PRawAdd.k38 (w0 := wr) wr.heap.size (by rfl) (.tmp 48) (.tmp 52) 29 38 (.agg #[(.string ⟨#[]⟩), (.slice none 0 0)]) 40 rfl Try.underlying29 PRawAdd.info38 rfl (by decide) (by omega) v107 y106 y109 _ _ _ (fun _ => True) (fun _ => False) rfl rfl ?aO ?aR (fun _ _ h => h) (fun _ h => h.elim) ?aF ?aB ?aS ?aL ?_
   (case aR => repeat (first | exact (Kd.C_below HR112.out HBr.out) | (with_reducible refine Kd.C_alloc ?_ _) | (with_reducible refine Kd.C_drewN ?_ _) | (with_reducible refine Kd.C_drew ?_)))
   (case aB => exact (zb HBr))
   (case aF => exact (fun _ _ => trivial))
   (case aO => exact (zr HO108))
   (case aS => exact (below_size (zb HBr)))
   (case aL => have := LMc14.out; omega)
   intro v114 w29 ho hb hg hat
   rw [← Ny113.out] at ho
   replace BKp := am (blk_grown (zk BKp) hg (Kd.R_ne HO108.out BKp.out (by decide)))
   replace BKr := am (blk_grown (zk BKr) hg (Kd.R_ne HO108.out BKr.out (by decide)))
   replace HBr := am (hb)
   have HO115 := am (ho)
   clear HO108 ho hb hg hat
   refine hK.out _ _ ⟨ce0 BKp, ce1 BKp⟩ (fun hHeld => ?_)
   clear hK K
   refine norm_ (a' := ?_) ?_ ?_
   rotate_left
   · show Act.put _ (some 53) _ = _
     simp only [Act.put, List.setIfInBounds_toArray, List.set_cons_zero, List.set_cons_succ, i64_w, i32_w]
     rfl
   refine oz 11 14 4095 rfl rfl (fun K hK => ?_)
   refine Kd.R_append_rows_step PRawAdd.k38 (w0 := wr) wr.heap.size (by rfl) (.tmp 53) (.tmp 58) 29 38 (.agg #[(.string ⟨#[]⟩), (.slice none 0 0)]) 40 rfl Try.underlying29 PRawAdd.info38 rfl (by decide) (by omega) v114 y113 y116 _ _ _ (fun _ => True) (fun _ => False) rfl rfl ?aO ?aR (fun _ _ h => h) (fun _ h => h.elim) ?aF ?aB ?aS ?aL ?_
   (case aR => repeat (first | exact (Kd.C_below HR119.out HBr.out) | (with_reducible refine Kd.C_alloc ?_ _) | (with_reducible refine Kd.C_drewN ?_ _) | (with_reducible refine Kd.C_drew ?_)))
   (case aB => exact (zb HBr))
   (case aF => exact (fun _ _ => trivial))
   (case aO => exact (zr HO115))
   (case aS => exact (below_size (zb HBr)))
   (case aL => have := LMc18.out; omega)
   intro v121 w30 ho hb hg hat
   rw [← Ny120.out] at ho
   replace BKp := am (blk_grown (zk BKp) hg (Kd.R_ne HO115.out BKp.out (by decide)))
   replace BKr := am (blk_grown (zk BKr) hg (Kd.R_ne HO115.out BKr.out (by decide)))
   replace HBr := am (hb)
   have HO122 := am (ho)
   clear HO115 ho hb hg hat
   obtain ⟨Ao31, co31, eo31⟩ := Kd.R_slice HO122.out
   (first | subst eo31 | (injection eo31 with f1_ f2_ f3_; have f4_ := f1_.symm; have f5_ := f3_.symm; clear f1_ f2_ f3_; subst f4_; subst f5_))
   refine hK.out _ _ ⟨ce0 BKp, ce1 BKp⟩ (fun hHeld => ?_)
   clear hK K
   refine norm_ (a' := ?_) ?_ ?_
   rotate_left
   · show Act.put _ (some 59) _ = _
     simp only [Act.put, List.setIfInBounds_toArray, List.set_cons_zero, List.set_cons_succ, i64_w, i32_w]
     rfl
   refine pu 12 60 14 8191 rfl rfl ?_
   have hSV : Kd.S k38 38 w30 w0.heap.size (fun _ => True) (.slice Ao31 y120.length co31) (l0_1.take (t246 : Int).toNat ++ l0_1.drop ((t246 : Int).toNat + 1)) := PRawAdd.gone_close (π := fun x : S38 => (x.f0, x.f1)) HHL.out HO122.out (by
    rw [Ny120.out, Ny113.out, Ny106.out, Ny109.out, Ny116.out, HZ.out, HJ.out, show ((t246 : Int) + 1).toNat = (t246 : Int).toNat + 1 by have := HK0.out; omega]
    simp) (below_size HB.out) HAP.out (fun j k h => Nat.lt_of_lt_of_le (HOKJ.out j k h).1.2.2.1 (Nat.le_trans HK.out.1 (Nat.le_refl _))) (fun j x hd h1 h2 => Kd.R_below (HROW.out j x hd h1 h2) HBr.out)
   have HSV := am hSV
   have HSL := am (Kd.R_below HO_245000.out HBr.out)
   have HKn := am (Kept.below (S := (fun k_ => P0_0_ k_)) HK.out HBr.out)
   have HBn := am (below_step HB.out HBr.out)
   refine la 13 14 16383 rfl rfl (fun K hK => ?_)
   have hs32 := ce1 BKp
   have hfs32 := bfz BKp 1
   have hns32_1 := NB245_244.out
   have hms32_1 := NB244_245.out
   refine skip_ (w1 := ?_) (by rfl) rfl ?_ ?_
   rotate_left
   · go_simp
     rfl
   refine hK.out _ _ ?_
   clear hK K
   refine done_ (done_of HT_.out (by kernel_rfl)) ?_
   have hcz33_0 := ce0 BKp
   have hcz33_1 := ce1 BKp
   have hfz33_0 := bfz BKp 0
   have hfz33_1 := bfz BKp 1
   have hcz34_0 := ce0 BKr
   have hcz34_1 := ce1 BKr
   have hfz34_0 := bfz BKr 0
   have hfz34_1 := bfz BKr 1
   try go_wp2
   refine bodyPost_ret (results_ct rfl _ _ gb245 31 #[.slice Ao36 x245000_1.length co36, .slice Ao31 y120.length co31] (0, 0) _ rfl (zp BKr) Try.underlying31 rfl (by kernel_rfl)) rfl ?_
   exact ⟨_, _, rfl, by (with_reducible repeat (first | apply Kd.R_alloc | apply Kd.R_drewN | apply Kd.R_drew)); exact Kd.R_mono (Kd.R_far (p := ⟨gb245, 1, none⟩) (Kd.R_far (p := ⟨gb245, 0, none⟩) (Kd.R_far (p := ⟨gb244, 1, none⟩) (Kd.R_types (Kd.R_types HSL.out BKp.out (by decide)) BKr.out (by decide)) (fun _ hk => hk.1.2) (.slice Ao31 y120.length co31)) (fun _ hk => hk.2) (.slice Ao36 x245000_1.length co36)) (fun _ hk => hk.2) (.slice Ao31 y120.length co31)) (fun _ hk => hk.1.1), by (with_reducible repeat (first | apply Kd.S_alloc | apply Kd.S_drewN | apply Kd.S_drew)); exact Kd.S_mono (Kd.S_far (p := ⟨gb245, 1, none⟩) (Kd.S_far (p := ⟨gb245, 0, none⟩) (Kd.S_far (p := ⟨gb244, 1, none⟩) (Kd.S_types (Kd.S_types HSV.out BKp.out (by decide)) BKr.out (by decide)) (fun _ hk => hk.1.2) (.slice Ao31 y120.length co31)) (fun _ hk => hk.2) (.slice Ao36 x245000_1.length co36)) (fun _ hk => hk.2) (.slice Ao31 y120.length co31)) (fun _ hk => trivial), (zb HBn), (zq HKn)⟩
/-! ### spec_l12Do: function 81 -/
def spec_l12Do.f (k : Nat) (l0_0 : List (S55)) (l0_1 : List (S38)) (a1_0 : Int) (a1_1 : ByteArray) (a1_2 : ByteArray) (a1_3 : Int) (a1_4 : ByteArray) : Option ((List (S55)) × (List (S38)) × Bool) := if a1_0 = 1 then ((spec_l11Make.f k l0_0 l0_1 a1_1 a1_3).bind fun bt258 => (some (bt258.1, bt258.2.1, bt258.2.2))) else (if a1_0 = 2 then ((spec_l11Write.f k l0_0 l0_1 a1_1 a1_3 a1_4).bind fun bt265 => (some (bt265.1, bt265.2.1, bt265.2.2))) else (if a1_0 = 3 then ((spec_l11Clone.f k l0_0 l0_1 a1_1 a1_2).bind fun bt272 => (some (bt272.1, bt272.2.1, bt272.2.2))) else ((spec_l11Gone.f k l0_0 l0_1 a1_1).bind fun bt279 => (some (bt279.1, bt279.2.1, bt279.2.2)))))
theorem spec_l12Do.mono : ∀ a0 a1 a2 a3 a4 a5 a6 k, LeO (spec_l12Do.f k a0 a1 a2 a3 a4 a5 a6) (spec_l12Do.f (k + 1) a0 a1 a2 a3 a4 a5 a6) := by
 intro a0 a1 a2 a3 a4 a5 a6 k
 unfold spec_l12Do.f
 exact mo4 @spec_l11Clone.mono @spec_l11Gone.mono @spec_l11Make.mono @spec_l11Write.mono
set_option maxHeartbeats 8000000 in
set_option maxRecDepth 100000 in
theorem spec_l12Do.calls (k : Nat) (P0_0_ : Nat → Prop) (u9000_ : Value) (l0_0 : List (S55)) (A0_1 : Option Addr) (c0_1 : Nat) (l0_1 : List (S38)) (a1_0 : Int) (a1_1 : ByteArray) (a1_2 : ByteArray) (a1_3 : Int) (a1_4 : ByteArray) (r1 : List (S55)) (r2 : List (S38)) (r3 : Bool) (w0 w : World) (hB : Below w0.heap.size w0 w) (ho0_0 : Kd.R k55 55 w w0.heap.size P0_0_ u9000_ l0_0) (hr0_1 : ∀ W_, Kept w W_ (fun k_ => P0_0_ k_) → Kd.C k38 W_ A0_1 l0_1.length l0_1) (hc0_1 : l0_1.length ≤ c0_1) (hq0_1 : Kd.S k38 38 w w0.heap.size (fun k_ => ¬ (P0_0_ k_)) (.slice A0_1 l0_1.length c0_1) l0_1) (h : spec_l12Do.f k l0_0 l0_1 a1_0 a1_1 a1_2 a1_3 a1_4 = some (r1, r2, r3)) :
 Calls Try.prog 81 #[.agg #[u9000_, .slice A0_1 l0_1.length c0_1], .agg #[.int .i64 a1_0, .string a1_1, .string a1_2, .int .i64 a1_3, .string a1_4]] w fun e w' => ∃ v0_ v1_ : Value, e = .returned (.tuple #[.agg #[v0_, v1_], .bool r3]) ∧ Kd.R k55 55 w' w0.heap.size (fun _ => True) v0_ r1 ∧ Kd.S k38 38 w' w0.heap.size (fun _ => True) v1_ r2 ∧ Below w0.heap.size w0 w' ∧ Kept w w' (fun k_ => P0_0_ k_) := by
 have hu31 := Try.underlying31
 have hu103 := Try.underlying103
 have HO0_0 := am (show Kd.R k55 55 w w0.heap.size (fun k_ => (P0_0_ k_ ∨ w.heap.size ≤ k_)) u9000_ l0_0 from Kd.R_mono ho0_0 (fun k_ hk => (.inl hk)))
 have HR0_1 := am hr0_1
 have HC0_1 := am hc0_1
 clear hr0_1 hc0_1
 have HK := am (Kept.refl w (fun k_ => P0_0_ k_))
 have HW0 := am hB.size
 have HB := am hB
 clear hB
 have H : (if a1_0 = 1 then ((spec_l11Make.f k l0_0 l0_1 a1_1 a1_3).bind fun bt258 => (some (bt258.1, bt258.2.1, bt258.2.2))) else (if a1_0 = 2 then ((spec_l11Write.f k l0_0 l0_1 a1_1 a1_3 a1_4).bind fun bt265 => (some (bt265.1, bt265.2.1, bt265.2.2))) else (if a1_0 = 3 then ((spec_l11Clone.f k l0_0 l0_1 a1_1 a1_2).bind fun bt272 => (some (bt272.1, bt272.2.1, bt272.2.2))) else ((spec_l11Gone.f k l0_0 l0_1 a1_1).bind fun bt279 => (some (bt279.1, bt279.2.1, bt279.2.2)))))) = some (r1, r2, r3) := h
 clear h
 by_cases c3 : a1_0 = 1
 · rw [if_pos c3] at H
   have c3b0 : (a1_0 == 1) = true := beq_iff_eq.mpr c3
   have c3b1 : (a1_0 != 1) = false := bne_eq_false_iff_eq.mpr c3
   clear c3
   replace H := obs H
   obtain ⟨⟨t258, t261, t264⟩, A40, H⟩ := H
   replace H : (some (t258, t261, t264)) = some (r1, r2, r3) := H
   have A4 := am A40
   clear A40
   simp only [Option.some.injEq, Prod.mk.injEq] at H
   obtain ⟨rfl, rfl, rfl⟩ := H
   obtain ⟨Ao5, co5, eo5⟩ := Kd.R_slice HO0_0.out
   subst eo5
   go_enter Try.func81, Try.ntmps81
   go_wp2_with (first | ((with_reducible refine gate_dst (N := 2) rfl ?_); refine bx 31 #[.slice Ao5 l0_0.length co5, .slice A0_1 l0_1.length c0_1] ?_; intro gb255 hg w6 hbox hb; replace HO0_0 := am (Kd.R_below (zr HO0_0) hb); have BK255 := am (hbox); have GW255 := am ((by rw [hg]; exact (by first | exact HK.out.1 | exact (show Kept w _ (fun k_ => P0_0_ k_) from (zq HK)).1) : w.heap.size ≤ gb255)); replace HK := am (Kept.below (S := (fun k_ => P0_0_ k_)) (zq HK) hb); have GE255 := am (zn hg (zb HB)); replace HB := am (below_step (zb HB) hb); clear hb hbox hg) | ((with_reducible refine gate_dst (N := 3) rfl ?_); refine bx 103 #[.int .i64 a1_0, .string a1_1, .string a1_2, .int .i64 a1_3, .string a1_4] ?_; intro gb256 hg w7 hbox hb; replace HO0_0 := am (Kd.R_below (zr HO0_0) hb); have BK256 := am (hbox); have GW256 := am ((by rw [hg]; exact (by first | exact HK.out.1 | exact (show Kept w _ (fun k_ => P0_0_ k_) from (zq HK)).1) : w.heap.size ≤ gb256)); replace HK := am (Kept.below (S := (fun k_ => P0_0_ k_)) (zq HK) hb); have GE256 := am (zn hg (zb HB)); replace HB := am (below_step (zb HB) hb); have NB255_256 := am (zx hg (zk BK255)); have NB256_255 := am (zy hg (zk BK255)); replace BK255 := am (blk_below (zk BK255) hb); clear hb hbox hg) | ((with_reducible refine gate_dst (N := 4) rfl ?_); refine bx 31 #[.slice none 0 0, .slice none 0 0] ?_; intro gb257 hg w8 hbox hb; replace HO0_0 := am (Kd.R_below (zr HO0_0) hb); have BK257 := am (hbox); have GW257 := am ((by rw [hg]; exact (by first | exact HK.out.1 | exact (show Kept w _ (fun k_ => P0_0_ k_) from (zq HK)).1) : w.heap.size ≤ gb257)); replace HK := am (Kept.below (S := (fun k_ => P0_0_ k_)) (zq HK) hb); have GE257 := am (zn hg (zb HB)); replace HB := am (below_step (zb HB) hb); have NB255_257 := am (zx hg (zk BK255)); have NB257_255 := am (zy hg (zk BK255)); replace BK255 := am (blk_below (zk BK255) hb); have NB256_257 := am (zx hg (zk BK256)); have NB257_256 := am (zy hg (zk BK256)); replace BK256 := am (blk_below (zk BK256) hb); clear hb hbox hg; have hnb9 := NB256_255.out; have hnc9 := NB255_256.out; have hnb10 := NB256_257.out; have hnc10 := NB257_256.out; have hcz11_0 := ce0 BK256; have hcz11_1 := ce1 BK256; have hcz11_2 := ce2 BK256; have hcz11_3 := ce3 BK256; have hcz11_4 := ce4 BK256; have hfz11_0 := bfz BK256 0; have hfz11_1 := bfz BK256 1; have hfz11_2 := bfz BK256 2; have hfz11_3 := bfz BK256 3; have hfz11_4 := bfz BK256 4; have hnb12 := NB255_257.out; have hnc12 := NB257_255.out; have hcz13_0 := ce0 BK255; have hcz13_1 := ce1 BK255; have hfz13_0 := bfz BK255 0; have hfz13_1 := bfz BK255 1) | ((with_reducible refine gate_callee (f := 88) rfl ?_); refine gl Try.func88 15 #[.agg #[.slice Ao5 l0_0.length co5, .slice A0_1 l0_1.length c0_1], .string a1_1, .int .i64 a1_3] rfl rfl rfl ?_; (with_reducible refine (spec_l11Make.calls k _ _ l0_0 _ _ l0_1 a1_1 a1_3 t258 t261 t264 _ ?side1 ?side2 ?side3 ?side4 w0.heap.size ?sb ?sq ?sS A4.out).mono ?_); (case side1 => exact zc (Kd.R_reads' HO0_0.out).2.2); (case side2 => exact (Kd.R_reads' HO0_0.out).2.1); (case side3 => exact Kd.C_kept_now HR0_1.out (zq HK)); (case side4 => exact HC0_1.out); (case sb => exact below_size (show Below w0.heap.size w0 _ from (zb HB))); (case sq => exact Kd.R_mono (zr HO0_0) (fun _ _ => trivial)); (case sS => exact Kd.S_mono (Kd.S_kept hq0_1 (zq HK) (fun k hk h2 => hk h2)) (fun _ _ => trivial)); rintro e w14 ⟨v259, v262, rfl, ho0, ho1, hb⟩; refine ⟨_, rfl, ?_⟩; replace HO0_0 := am (Kd.R_below (zr HO0_0) hb); have HO260 := am (ho0); have HO263 := am (ho1); replace BK255 := am (blk_below (zk BK255) hb); replace BK256 := am (blk_below (zk BK256) hb); replace BK257 := am (blk_below (zk BK257) hb); replace HK := am (Kept.below (S := (fun k_ => P0_0_ k_)) (zq HK) hb); replace HB := am (below_step (zb HB) hb); (try clear hb); (try clear hb2); (try clear hk); (try clear hi); (try clear ho0); (try clear ho1); obtain ⟨Ao15, co15, eo15⟩ := Kd.R_slice HO260.out; subst eo15; have hcz16_0 := ce0 BK257; have hcz16_1 := ce1 BK257; have hfz16_0 := bfz BK257 0; have hfz16_1 := bfz BK257 1; obtain ⟨Ao17, co17, eo17⟩ := Kd.S_slice HO263.out; subst eo17))
   refine bodyPost_ret (results_ct rfl _ _ gb257 31 #[.slice Ao15 t258.length co15, .slice Ao17 t261.length co17] (0, 0) _ rfl (zp BK257) Try.underlying31 rfl (by kernel_rfl)) rfl ?_
   exact ⟨_, _, zw, by (with_reducible repeat (first | apply Kd.R_alloc | apply Kd.R_drewN | apply Kd.R_drew)); exact Kd.R_mono (Kd.R_far (p := ⟨gb257, 1, none⟩) (Kd.R_far (p := ⟨gb257, 0, none⟩) (Kd.R_types HO260.out BK257.out (by decide)) (fun _ hk => hk.2) (.slice Ao15 t258.length co15)) (fun _ hk => hk.2) (.slice Ao17 t261.length co17)) (fun _ hk => by first | exact trivial | exact hk.1.1.1 | exact hk.1.1 | exact hk.1 | exact hk), by (with_reducible repeat (first | apply Kd.S_alloc | apply Kd.S_drewN | apply Kd.S_drew)); exact Kd.S_mono (Kd.S_far (p := ⟨gb257, 1, none⟩) (Kd.S_far (p := ⟨gb257, 0, none⟩) (Kd.S_types HO263.out BK257.out (by decide)) (fun _ hk => hk.2) (.slice Ao15 t258.length co15)) (fun _ hk => hk.2) (.slice Ao17 t261.length co17)) (fun _ hk => by first | exact trivial | exact hk.1.1 | exact hk.1.1 | exact hk.1 | exact hk), (zb HB), (zq HK)⟩
 rw [if_neg c3] at H
 have c3b0 : (a1_0 == 1) = false := beq_eq_false_iff_ne.mpr c3
 have c3b1 : (a1_0 != 1) = true := bne_iff_ne.mpr c3
 by_cases c18 : a1_0 = 2
 · rw [if_pos c18] at H
   have c18b0 : (a1_0 == 2) = true := beq_iff_eq.mpr c18
   have c18b1 : (a1_0 != 2) = false := bne_eq_false_iff_eq.mpr c18
   clear c18
   replace H := obs H
   obtain ⟨⟨t265, t268, t271⟩, A190, H⟩ := H
   replace H : (some (t265, t268, t271)) = some (r1, r2, r3) := H
   have A19 := am A190
   clear A190
   simp only [Option.some.injEq, Prod.mk.injEq] at H
   obtain ⟨rfl, rfl, rfl⟩ := H
   obtain ⟨Ao20, co20, eo20⟩ := Kd.R_slice HO0_0.out
   subst eo20
   go_enter Try.func81, Try.ntmps81
   go_wp2_with (first | ((with_reducible refine gate_dst (N := 2) rfl ?_); refine bx 31 #[.slice Ao20 l0_0.length co20, .slice A0_1 l0_1.length c0_1] ?_; intro gb255 hg w21 hbox hb; replace HO0_0 := am (Kd.R_below (zr HO0_0) hb); have BK255 := am (hbox); have GW255 := am ((by rw [hg]; exact (by first | exact HK.out.1 | exact (show Kept w _ (fun k_ => P0_0_ k_) from (zq HK)).1) : w.heap.size ≤ gb255)); replace HK := am (Kept.below (S := (fun k_ => P0_0_ k_)) (zq HK) hb); have GE255 := am (zn hg (zb HB)); replace HB := am (below_step (zb HB) hb); clear hb hbox hg) | ((with_reducible refine gate_dst (N := 3) rfl ?_); refine bx 103 #[.int .i64 a1_0, .string a1_1, .string a1_2, .int .i64 a1_3, .string a1_4] ?_; intro gb256 hg w22 hbox hb; replace HO0_0 := am (Kd.R_below (zr HO0_0) hb); have BK256 := am (hbox); have GW256 := am ((by rw [hg]; exact (by first | exact HK.out.1 | exact (show Kept w _ (fun k_ => P0_0_ k_) from (zq HK)).1) : w.heap.size ≤ gb256)); replace HK := am (Kept.below (S := (fun k_ => P0_0_ k_)) (zq HK) hb); have GE256 := am (zn hg (zb HB)); replace HB := am (below_step (zb HB) hb); have NB255_256 := am (zx hg (zk BK255)); have NB256_255 := am (zy hg (zk BK255)); replace BK255 := am (blk_below (zk BK255) hb); clear hb hbox hg) | ((with_reducible refine gate_dst (N := 4) rfl ?_); refine bx 31 #[.slice none 0 0, .slice none 0 0] ?_; intro gb257 hg w23 hbox hb; replace HO0_0 := am (Kd.R_below (zr HO0_0) hb); have BK257 := am (hbox); have GW257 := am ((by rw [hg]; exact (by first | exact HK.out.1 | exact (show Kept w _ (fun k_ => P0_0_ k_) from (zq HK)).1) : w.heap.size ≤ gb257)); replace HK := am (Kept.below (S := (fun k_ => P0_0_ k_)) (zq HK) hb); have GE257 := am (zn hg (zb HB)); replace HB := am (below_step (zb HB) hb); have NB255_257 := am (zx hg (zk BK255)); have NB257_255 := am (zy hg (zk BK255)); replace BK255 := am (blk_below (zk BK255) hb); have NB256_257 := am (zx hg (zk BK256)); have NB257_256 := am (zy hg (zk BK256)); replace BK256 := am (blk_below (zk BK256) hb); clear hb hbox hg; have hnb24 := NB256_255.out; have hnc24 := NB255_256.out; have hnb25 := NB256_257.out; have hnc25 := NB257_256.out; have hcz26_0 := ce0 BK256; have hcz26_1 := ce1 BK256; have hcz26_2 := ce2 BK256; have hcz26_3 := ce3 BK256; have hcz26_4 := ce4 BK256; have hfz26_0 := bfz BK256 0; have hfz26_1 := bfz BK256 1; have hfz26_2 := bfz BK256 2; have hfz26_3 := bfz BK256 3; have hfz26_4 := bfz BK256 4; have hnb27 := NB255_257.out; have hnc27 := NB257_255.out; have hcz28_0 := ce0 BK255; have hcz28_1 := ce1 BK255; have hfz28_0 := bfz BK255 0; have hfz28_1 := bfz BK255 1) | ((with_reducible refine gate_callee (f := 89) rfl ?_); refine gl Try.func89 27 #[.agg #[.slice Ao20 l0_0.length co20, .slice A0_1 l0_1.length c0_1], .string a1_1, .int .i64 a1_3, .string a1_4] rfl rfl rfl ?_; (with_reducible refine (spec_l11Write.calls k _ _ l0_0 _ _ l0_1 a1_1 a1_3 a1_4 t265 t268 t271 _ ?side1 ?side2 ?side3 ?side4 w0.heap.size ?sb ?sq ?sS A19.out).mono ?_); (case side1 => exact zc (Kd.R_reads' HO0_0.out).2.2); (case side2 => exact (Kd.R_reads' HO0_0.out).2.1); (case side3 => exact Kd.C_kept_now HR0_1.out (zq HK)); (case side4 => exact HC0_1.out); (case sb => exact below_size (show Below w0.heap.size w0 _ from (zb HB))); (case sq => exact Kd.R_mono (zr HO0_0) (fun _ _ => trivial)); (case sS => exact Kd.S_mono (Kd.S_kept hq0_1 (zq HK) (fun k hk h2 => hk h2)) (fun _ _ => trivial)); rintro e w29 ⟨v266, v269, rfl, ho0, ho1, hb⟩; refine ⟨_, rfl, ?_⟩; replace HO0_0 := am (Kd.R_below (zr HO0_0) hb); have HO267 := am (ho0); have HO270 := am (ho1); replace BK255 := am (blk_below (zk BK255) hb); replace BK256 := am (blk_below (zk BK256) hb); replace BK257 := am (blk_below (zk BK257) hb); replace HK := am (Kept.below (S := (fun k_ => P0_0_ k_)) (zq HK) hb); replace HB := am (below_step (zb HB) hb); (try clear hb); (try clear hb2); (try clear hk); (try clear hi); (try clear ho0); (try clear ho1); obtain ⟨Ao30, co30, eo30⟩ := Kd.R_slice HO267.out; subst eo30; have hcz31_0 := ce0 BK257; have hcz31_1 := ce1 BK257; have hfz31_0 := bfz BK257 0; have hfz31_1 := bfz BK257 1; obtain ⟨Ao32, co32, eo32⟩ := Kd.S_slice HO270.out; subst eo32))
   refine bodyPost_ret (results_ct rfl _ _ gb257 31 #[.slice Ao30 t265.length co30, .slice Ao32 t268.length co32] (0, 0) _ rfl (zp BK257) Try.underlying31 rfl (by kernel_rfl)) rfl ?_
   exact ⟨_, _, zw, by (with_reducible repeat (first | apply Kd.R_alloc | apply Kd.R_drewN | apply Kd.R_drew)); exact Kd.R_mono (Kd.R_far (p := ⟨gb257, 1, none⟩) (Kd.R_far (p := ⟨gb257, 0, none⟩) (Kd.R_types HO267.out BK257.out (by decide)) (fun _ hk => hk.2) (.slice Ao30 t265.length co30)) (fun _ hk => hk.2) (.slice Ao32 t268.length co32)) (fun _ hk => by first | exact trivial | exact hk.1.1.1 | exact hk.1.1 | exact hk.1 | exact hk), by (with_reducible repeat (first | apply Kd.S_alloc | apply Kd.S_drewN | apply Kd.S_drew)); exact Kd.S_mono (Kd.S_far (p := ⟨gb257, 1, none⟩) (Kd.S_far (p := ⟨gb257, 0, none⟩) (Kd.S_types HO270.out BK257.out (by decide)) (fun _ hk => hk.2) (.slice Ao30 t265.length co30)) (fun _ hk => hk.2) (.slice Ao32 t268.length co32)) (fun _ hk => by first | exact trivial | exact hk.1.1 | exact hk.1.1 | exact hk.1 | exact hk), (zb HB), (zq HK)⟩
 rw [if_neg c18] at H
 have c18b0 : (a1_0 == 2) = false := beq_eq_false_iff_ne.mpr c18
 have c18b1 : (a1_0 != 2) = true := bne_iff_ne.mpr c18
 by_cases c33 : a1_0 = 3
 · rw [if_pos c33] at H
   have c33b0 : (a1_0 == 3) = true := beq_iff_eq.mpr c33
   have c33b1 : (a1_0 != 3) = false := bne_eq_false_iff_eq.mpr c33
   clear c33
   replace H := obs H
   obtain ⟨⟨t272, t275, t278⟩, A340, H⟩ := H
   replace H : (some (t272, t275, t278)) = some (r1, r2, r3) := H
   have A34 := am A340
   clear A340
   simp only [Option.some.injEq, Prod.mk.injEq] at H
   obtain ⟨rfl, rfl, rfl⟩ := H
   obtain ⟨Ao35, co35, eo35⟩ := Kd.R_slice HO0_0.out
   subst eo35
   go_enter Try.func81, Try.ntmps81
   go_wp2_with (first | ((with_reducible refine gate_dst (N := 2) rfl ?_); refine bx 31 #[.slice Ao35 l0_0.length co35, .slice A0_1 l0_1.length c0_1] ?_; intro gb255 hg w36 hbox hb; replace HO0_0 := am (Kd.R_below (zr HO0_0) hb); have BK255 := am (hbox); have GW255 := am ((by rw [hg]; exact (by first | exact HK.out.1 | exact (show Kept w _ (fun k_ => P0_0_ k_) from (zq HK)).1) : w.heap.size ≤ gb255)); replace HK := am (Kept.below (S := (fun k_ => P0_0_ k_)) (zq HK) hb); have GE255 := am (zn hg (zb HB)); replace HB := am (below_step (zb HB) hb); clear hb hbox hg) | ((with_reducible refine gate_dst (N := 3) rfl ?_); refine bx 103 #[.int .i64 a1_0, .string a1_1, .string a1_2, .int .i64 a1_3, .string a1_4] ?_; intro gb256 hg w37 hbox hb; replace HO0_0 := am (Kd.R_below (zr HO0_0) hb); have BK256 := am (hbox); have GW256 := am ((by rw [hg]; exact (by first | exact HK.out.1 | exact (show Kept w _ (fun k_ => P0_0_ k_) from (zq HK)).1) : w.heap.size ≤ gb256)); replace HK := am (Kept.below (S := (fun k_ => P0_0_ k_)) (zq HK) hb); have GE256 := am (zn hg (zb HB)); replace HB := am (below_step (zb HB) hb); have NB255_256 := am (zx hg (zk BK255)); have NB256_255 := am (zy hg (zk BK255)); replace BK255 := am (blk_below (zk BK255) hb); clear hb hbox hg) | ((with_reducible refine gate_dst (N := 4) rfl ?_); refine bx 31 #[.slice none 0 0, .slice none 0 0] ?_; intro gb257 hg w38 hbox hb; replace HO0_0 := am (Kd.R_below (zr HO0_0) hb); have BK257 := am (hbox); have GW257 := am ((by rw [hg]; exact (by first | exact HK.out.1 | exact (show Kept w _ (fun k_ => P0_0_ k_) from (zq HK)).1) : w.heap.size ≤ gb257)); replace HK := am (Kept.below (S := (fun k_ => P0_0_ k_)) (zq HK) hb); have GE257 := am (zn hg (zb HB)); replace HB := am (below_step (zb HB) hb); have NB255_257 := am (zx hg (zk BK255)); have NB257_255 := am (zy hg (zk BK255)); replace BK255 := am (blk_below (zk BK255) hb); have NB256_257 := am (zx hg (zk BK256)); have NB257_256 := am (zy hg (zk BK256)); replace BK256 := am (blk_below (zk BK256) hb); clear hb hbox hg; have hnb39 := NB256_255.out; have hnc39 := NB255_256.out; have hnb40 := NB256_257.out; have hnc40 := NB257_256.out; have hcz41_0 := ce0 BK256; have hcz41_1 := ce1 BK256; have hcz41_2 := ce2 BK256; have hcz41_3 := ce3 BK256; have hcz41_4 := ce4 BK256; have hfz41_0 := bfz BK256 0; have hfz41_1 := bfz BK256 1; have hfz41_2 := bfz BK256 2; have hfz41_3 := bfz BK256 3; have hfz41_4 := bfz BK256 4; have hnb42 := NB255_257.out; have hnc42 := NB257_255.out; have hcz43_0 := ce0 BK255; have hcz43_1 := ce1 BK255; have hfz43_0 := bfz BK255 0; have hfz43_1 := bfz BK255 1) | ((with_reducible refine gate_callee (f := 90) rfl ?_); refine gl Try.func90 37 #[.agg #[.slice Ao35 l0_0.length co35, .slice A0_1 l0_1.length c0_1], .string a1_1, .string a1_2] rfl rfl rfl ?_; (with_reducible refine (spec_l11Clone.calls k (fun k_ => some k_ = (.slice Ao35 l0_0.length co35 : Value).ownBlock) (.slice Ao35 l0_0.length co35) l0_0 _ _ l0_1 a1_1 a1_2 t272 t275 t278 w0 _ ?side1 ?side2 ?side3 ?side4 ?sS A34.out).mono ?_); (case side1 => exact zb HB); (case side2 => exact Kd.R_tight rfl HO0_0.out); (case side3 => exact Kd.C_kept_call HR0_1.out (zq HK) (fun k_ hs_ => (fun e_ => (HO0_0.out.1 k_ e_.symm)) hs_)); (case side4 => exact HC0_1.out); (case sS => exact Kd.S_mono (Kd.S_apart' (Kd.S_kept hq0_1 (zq HK) (fun k hk h2 => hk h2)) (Kd.R_typed (HO0_0.out)) (by decide)) (fun k hk => hk.2)); rintro e w44 ⟨v273, v276, rfl, ho0, ho1, hb, hkp⟩; refine ⟨_, rfl, ?_⟩; replace BK255 := am (blk_kept (zk BK255) hkp (fun hs_ => (fun e_ => (Kd.R_ne HO0_0.out BK255.out (by decide)) e_) hs_)); replace BK256 := am (blk_kept (zk BK256) hkp (fun hs_ => (fun e_ => (Kd.R_ne HO0_0.out BK256.out (by decide)) e_) hs_)); replace BK257 := am (blk_kept (zk BK257) hkp (fun hs_ => (fun e_ => (Kd.R_ne HO0_0.out BK257.out (by decide)) e_) hs_)); have HO274 := am (Kd.R_mono (ok' := fun k_ => (P0_0_ k_ ∨ w.heap.size ≤ k_)) ho0 (fun k_ hk_ => Or.elim hk_ (fun hs_ => (HO0_0.out.1 k_ (hs_).symm)) (fun hn_ => (.inr (Nat.le_trans (by first | exact HK.out.1 | exact (show Kept w _ (fun k_ => P0_0_ k_) from (zq HK)).1) hn_))))); have HO277 := am (ho1); replace HK := am (Kept.then_ (S := (fun k_ => P0_0_ k_)) (zq HK) hkp (fun k_ hs_ => (fun e_ => (HO0_0.out.1 k_ e_.symm)) hs_)); replace HB := am (hb); clear HO0_0; (try clear hb); (try clear hkp); (try clear ho0); (try clear ho1); obtain ⟨Ao45, co45, eo45⟩ := Kd.R_slice HO274.out; subst eo45; have hcz46_0 := ce0 BK257; have hcz46_1 := ce1 BK257; have hfz46_0 := bfz BK257 0; have hfz46_1 := bfz BK257 1; obtain ⟨Ao47, co47, eo47⟩ := Kd.S_slice HO277.out; subst eo47))
   refine bodyPost_ret (results_ct rfl _ _ gb257 31 #[.slice Ao45 t272.length co45, .slice Ao47 t275.length co47] (0, 0) _ rfl (zp BK257) Try.underlying31 rfl (by kernel_rfl)) rfl ?_
   exact ⟨_, _, zw, by (with_reducible repeat (first | apply Kd.R_alloc | apply Kd.R_drewN | apply Kd.R_drew)); exact Kd.R_mono (Kd.R_far (p := ⟨gb257, 1, none⟩) (Kd.R_far (p := ⟨gb257, 0, none⟩) (Kd.R_types HO274.out BK257.out (by decide)) (fun _ hk => hk.2) (.slice Ao45 t272.length co45)) (fun _ hk => hk.2) (.slice Ao47 t275.length co47)) (fun _ hk => by first | exact trivial | exact hk.1 | exact hk.1.1 | exact hk.1 | exact hk), by (with_reducible repeat (first | apply Kd.S_alloc | apply Kd.S_drewN | apply Kd.S_drew)); exact Kd.S_mono (Kd.S_far (p := ⟨gb257, 1, none⟩) (Kd.S_far (p := ⟨gb257, 0, none⟩) (Kd.S_types HO277.out BK257.out (by decide)) (fun _ hk => hk.2) (.slice Ao45 t272.length co45)) (fun _ hk => hk.2) (.slice Ao47 t275.length co47)) (fun _ hk => by first | exact trivial | exact hk.1 | exact hk.1.1 | exact hk.1 | exact hk), (zb HB), (zq HK)⟩
 rw [if_neg c33] at H
 have c33b0 : (a1_0 == 3) = false := beq_eq_false_iff_ne.mpr c33
 have c33b1 : (a1_0 != 3) = true := bne_iff_ne.mpr c33
 replace H := obs H
 obtain ⟨⟨t279, t282, t285⟩, A480, H⟩ := H
 replace H : (some (t279, t282, t285)) = some (r1, r2, r3) := H
 have A48 := am A480
 clear A480
 simp only [Option.some.injEq, Prod.mk.injEq] at H
 obtain ⟨rfl, rfl, rfl⟩ := H
 obtain ⟨Ao49, co49, eo49⟩ := Kd.R_slice HO0_0.out
 subst eo49
 go_enter Try.func81, Try.ntmps81
 go_wp2_with (first | ((with_reducible refine gate_dst (N := 2) rfl ?_); refine bx 31 #[.slice Ao49 l0_0.length co49, .slice A0_1 l0_1.length c0_1] ?_; intro gb255 hg w50 hbox hb; replace HO0_0 := am (Kd.R_below (zr HO0_0) hb); have BK255 := am (hbox); have GW255 := am ((by rw [hg]; exact (by first | exact HK.out.1 | exact (show Kept w _ (fun k_ => P0_0_ k_) from (zq HK)).1) : w.heap.size ≤ gb255)); replace HK := am (Kept.below (S := (fun k_ => P0_0_ k_)) (zq HK) hb); have GE255 := am (zn hg (zb HB)); replace HB := am (below_step (zb HB) hb); clear hb hbox hg) | ((with_reducible refine gate_dst (N := 3) rfl ?_); refine bx 103 #[.int .i64 a1_0, .string a1_1, .string a1_2, .int .i64 a1_3, .string a1_4] ?_; intro gb256 hg w51 hbox hb; replace HO0_0 := am (Kd.R_below (zr HO0_0) hb); have BK256 := am (hbox); have GW256 := am ((by rw [hg]; exact (by first | exact HK.out.1 | exact (show Kept w _ (fun k_ => P0_0_ k_) from (zq HK)).1) : w.heap.size ≤ gb256)); replace HK := am (Kept.below (S := (fun k_ => P0_0_ k_)) (zq HK) hb); have GE256 := am (zn hg (zb HB)); replace HB := am (below_step (zb HB) hb); have NB255_256 := am (zx hg (zk BK255)); have NB256_255 := am (zy hg (zk BK255)); replace BK255 := am (blk_below (zk BK255) hb); clear hb hbox hg) | ((with_reducible refine gate_dst (N := 4) rfl ?_); refine bx 31 #[.slice none 0 0, .slice none 0 0] ?_; intro gb257 hg w52 hbox hb; replace HO0_0 := am (Kd.R_below (zr HO0_0) hb); have BK257 := am (hbox); have GW257 := am ((by rw [hg]; exact (by first | exact HK.out.1 | exact (show Kept w _ (fun k_ => P0_0_ k_) from (zq HK)).1) : w.heap.size ≤ gb257)); replace HK := am (Kept.below (S := (fun k_ => P0_0_ k_)) (zq HK) hb); have GE257 := am (zn hg (zb HB)); replace HB := am (below_step (zb HB) hb); have NB255_257 := am (zx hg (zk BK255)); have NB257_255 := am (zy hg (zk BK255)); replace BK255 := am (blk_below (zk BK255) hb); have NB256_257 := am (zx hg (zk BK256)); have NB257_256 := am (zy hg (zk BK256)); replace BK256 := am (blk_below (zk BK256) hb); clear hb hbox hg; have hnb53 := NB256_255.out; have hnc53 := NB255_256.out; have hnb54 := NB256_257.out; have hnc54 := NB257_256.out; have hcz55_0 := ce0 BK256; have hcz55_1 := ce1 BK256; have hcz55_2 := ce2 BK256; have hcz55_3 := ce3 BK256; have hcz55_4 := ce4 BK256; have hfz55_0 := bfz BK256 0; have hfz55_1 := bfz BK256 1; have hfz55_2 := bfz BK256 2; have hfz55_3 := bfz BK256 3; have hfz55_4 := bfz BK256 4; have hnb56 := NB255_257.out; have hnc56 := NB257_255.out; have hcz57_0 := ce0 BK255; have hcz57_1 := ce1 BK255; have hfz57_0 := bfz BK255 0; have hfz57_1 := bfz BK255 1) | ((with_reducible refine gate_callee (f := 91) rfl ?_); refine gl Try.func91 43 #[.agg #[.slice Ao49 l0_0.length co49, .slice A0_1 l0_1.length c0_1], .string a1_1] rfl rfl rfl ?_; (with_reducible refine (spec_l11Gone.calls k (fun k_ => some k_ = (.slice Ao49 l0_0.length co49 : Value).ownBlock) (.slice Ao49 l0_0.length co49) l0_0 _ _ l0_1 a1_1 t279 t282 t285 w0 _ ?side1 ?side2 ?side3 ?side4 ?sS A48.out).mono ?_); (case side1 => exact zb HB); (case side2 => exact Kd.R_tight rfl HO0_0.out); (case side3 => exact Kd.C_kept_call HR0_1.out (zq HK) (fun k_ hs_ => (fun e_ => (HO0_0.out.1 k_ e_.symm)) hs_)); (case side4 => exact HC0_1.out); (case sS => exact Kd.S_mono (Kd.S_apart' (Kd.S_kept hq0_1 (zq HK) (fun k hk h2 => hk h2)) (Kd.R_typed (HO0_0.out)) (by decide)) (fun k hk => hk.2)); rintro e w58 ⟨v280, v283, rfl, ho0, ho1, hb, hkp⟩; refine ⟨_, rfl, ?_⟩; replace BK255 := am (blk_kept (zk BK255) hkp (fun hs_ => (fun e_ => (Kd.R_ne HO0_0.out BK255.out (by decide)) e_) hs_)); replace BK256 := am (blk_kept (zk BK256) hkp (fun hs_ => (fun e_ => (Kd.R_ne HO0_0.out BK256.out (by decide)) e_) hs_)); replace BK257 := am (blk_kept (zk BK257) hkp (fun hs_ => (fun e_ => (Kd.R_ne HO0_0.out BK257.out (by decide)) e_) hs_)); have HO281 := am (Kd.R_mono (ok' := fun k_ => (P0_0_ k_ ∨ w.heap.size ≤ k_)) ho0 (fun k_ hk_ => Or.elim hk_ (fun hs_ => (HO0_0.out.1 k_ (hs_).symm)) (fun hn_ => (.inr (Nat.le_trans (by first | exact HK.out.1 | exact (show Kept w _ (fun k_ => P0_0_ k_) from (zq HK)).1) hn_))))); have HO284 := am (ho1); replace HK := am (Kept.then_ (S := (fun k_ => P0_0_ k_)) (zq HK) hkp (fun k_ hs_ => (fun e_ => (HO0_0.out.1 k_ e_.symm)) hs_)); replace HB := am (hb); clear HO0_0; (try clear hb); (try clear hkp); (try clear ho0); (try clear ho1); obtain ⟨Ao59, co59, eo59⟩ := Kd.R_slice HO281.out; subst eo59; have hcz60_0 := ce0 BK257; have hcz60_1 := ce1 BK257; have hfz60_0 := bfz BK257 0; have hfz60_1 := bfz BK257 1; obtain ⟨Ao61, co61, eo61⟩ := Kd.S_slice HO284.out; subst eo61))
 refine bodyPost_ret (results_ct rfl _ _ gb257 31 #[.slice Ao59 t279.length co59, .slice Ao61 t282.length co61] (0, 0) _ rfl (zp BK257) Try.underlying31 rfl (by kernel_rfl)) rfl ?_
 exact ⟨_, _, zw, by (with_reducible repeat (first | apply Kd.R_alloc | apply Kd.R_drewN | apply Kd.R_drew)); exact Kd.R_mono (Kd.R_far (p := ⟨gb257, 1, none⟩) (Kd.R_far (p := ⟨gb257, 0, none⟩) (Kd.R_types HO281.out BK257.out (by decide)) (fun _ hk => hk.2) (.slice Ao59 t279.length co59)) (fun _ hk => hk.2) (.slice Ao61 t282.length co61)) (fun _ hk => by first | exact trivial | exact hk.1 | exact hk.1.1 | exact hk.1 | exact hk), by (with_reducible repeat (first | apply Kd.S_alloc | apply Kd.S_drewN | apply Kd.S_drew)); exact Kd.S_mono (Kd.S_far (p := ⟨gb257, 1, none⟩) (Kd.S_far (p := ⟨gb257, 0, none⟩) (Kd.S_types HO284.out BK257.out (by decide)) (fun _ hk => hk.2) (.slice Ao59 t279.length co59)) (fun _ hk => hk.2) (.slice Ao61 t282.length co61)) (fun _ hk => by first | exact trivial | exact hk.1 | exact hk.1.1 | exact hk.1 | exact hk), (zb HB), (zq HK)⟩
/-- .. as its callers ask it: both rows are the call's own from b on. -/
theorem spec_l12Do.callsB (k : Nat) (P0 : Nat → Prop) (u0 : Value) (l0 : List (S55)) (P1 : Nat → Prop) (u1 : Value) (l1 : List (S38)) (a1_0 : Int) (a1_1 : ByteArray) (a1_2 : ByteArray) (a1_3 : Int) (a1_4 : ByteArray) (r1 : List (S55)) (r2 : List (S38)) (r3 : Bool) (w0 w : World) (b : Nat)
 (hB : Below w0.heap.size w0 w) (hle : w0.heap.size ≤ b) (hbw : b ≤ w.heap.size) (ho0 : Kd.R k55 55 w b P0 u0 l0) (ho1 : Kd.S k38 38 w b (fun _ => True) u1 l1) (h : spec_l12Do.f k l0 l1 a1_0 a1_1 a1_2 a1_3 a1_4 = some (r1, r2, r3)) :
 Calls Try.prog 81 #[.agg #[u0, u1], .agg #[.int .i64 a1_0, .string a1_1, .string a1_2, .int .i64 a1_3, .string a1_4]] w fun e w' => ∃ v0_ v1_ : Value, e = .returned (.tuple #[.agg #[v0_, v1_], .bool r3]) ∧ Kd.R k55 55 w' b (fun _ => True) v0_ r1 ∧ Kd.S k38 38 w' b (fun _ => True) v1_ r2 ∧ Below w0.heap.size w0 w' ∧ Kept w w' (fun k => P0 k ∨ P1 k) := by
 obtain ⟨A1, c1, rfl⟩ := Kd.S_slice ho1
 let wt : World := { w with heap := w.heap.extract 0 b }
 have hs : wt.heap.size = b := by simp [wt]; omega
 have hBt : Below wt.heap.size wt w := by
  refine ⟨rfl, rfl, rfl, by rw [hs]; exact hbw, fun k hk => ?_⟩
  rw [hs] at hk
  have hk2 : k < w.heap.size := by omega
  rw [Array.getElem?_eq_getElem hk2, Array.getElem?_eq_getElem (by simp [wt]; omega)]
  simp [wt]
 have hap := Kd.S_mono (ok' := fun k => ¬ (some k = u0.ownBlock)) (Kd.S_apart' ho1 (Kd.R_typed ho0) (by decide)) (fun k hk => hk.2)
 have hc := spec_l12Do.calls k (fun k => some k = u0.ownBlock) u0 l0 A1 c1 l1 a1_0 a1_1 a1_2 a1_3 a1_4 r1 r2 r3 wt w hBt (by rw [hs]; exact Kd.R_tight rfl ho0) (fun W hK => (Kd.S_reads' (Kd.S_kept hap hK (fun k hk h => hk h))).2.2) (Kd.S_reads' ho1).2.1 (by rw [hs]; exact hap) h
 refine hc.mono ?_
 rintro e w' ⟨v0, v1, rfl, h0, h1, h2, h3⟩
 rw [hs] at h0 h1
 refine ⟨v0, v1, rfl, h0, h1, ⟨h2.os.trans hB.os, h2.tape.trans hB.tape, h2.output.trans hB.output, Nat.le_trans hB.size h3.1, fun k hk => ?_⟩, h3.mono (fun k hk => .inl (ho0.1 k hk.symm))⟩
 have := h2.block k (by rw [hs]; omega)
 exact this.trans ((hBt.block k (by rw [hs]; omega)).symm.trans (hB.block k hk))
/-! ### spec_OpOk: function 83 -/
def spec_OpOk.f (k : Nat) (a0_0 : Int) (a0_1 : ByteArray) (a0_2 : ByteArray) (a0_3 : Int) (a0_4 : ByteArray) : Option (Bool) := (spec_l3Name.f a0_1).bind fun t287 => (if t287 = true then (if a0_0 = 1 then (if a0_2.toList = ([] : List UInt8) then ((spec_l6In.f a0_3 1 6).bind fun t288 => (if t288 = true then (some (a0_4.toList == ([] : List UInt8))) else (some false))) else (some false)) else (if a0_0 = 2 then (if a0_2.toList = ([] : List UInt8) then ((spec_l6In.f a0_3 0 5).bind fun t289 => (if t289 = true then ((spec_TextOk.f k a0_4).bind fun t290 => (some t290)) else (some false))) else (some false)) else (if a0_0 = 3 then ((spec_l3Name.f a0_2).bind fun t291 => (if t291 = true then (if a0_3 = 0 then (some (a0_4.toList == ([] : List UInt8))) else (some false)) else (some false))) else (if a0_0 = 4 then (if a0_2.toList = ([] : List UInt8) then (if a0_3 = 0 then (some (a0_4.toList == ([] : List UInt8))) else (some false)) else (some false)) else (some false))))) else (some false))
theorem spec_OpOk.mono : ∀ a0 a1 a2 a3 a4 k, LeO (spec_OpOk.f k a0 a1 a2 a3 a4) (spec_OpOk.f (k + 1) a0 a1 a2 a3 a4) := by
 intro a0 a1 a2 a3 a4 k
 unfold spec_OpOk.f
 exact mo1 @spec_TextOk.mono
set_option maxHeartbeats 8000000 in
set_option maxRecDepth 100000 in
theorem spec_OpOk.calls (k : Nat) (a0_0 : Int) (a0_1 : ByteArray) (a0_2 : ByteArray) (a0_3 : Int) (a0_4 : ByteArray) (r : Bool) (w : World) (h : spec_OpOk.f k a0_0 a0_1 a0_2 a0_3 a0_4 = some r) :
 Calls Try.prog 83 #[.agg #[.int .i64 a0_0, .string a0_1, .string a0_2, .int .i64 a0_3, .string a0_4]] w fun e w' => e = .returned (.bool r) ∧ Below w.heap.size w w' := by
 have hu103 := Try.underlying103
 have HB := am (Below.refl w.heap.size w)
 have H : ((spec_l3Name.f a0_1).bind fun t287 => (if t287 = true then (if a0_0 = 1 then (if a0_2.toList = ([] : List UInt8) then ((spec_l6In.f a0_3 1 6).bind fun t288 => (if t288 = true then (some (a0_4.toList == ([] : List UInt8))) else (some false))) else (some false)) else (if a0_0 = 2 then (if a0_2.toList = ([] : List UInt8) then ((spec_l6In.f a0_3 0 5).bind fun t289 => (if t289 = true then ((spec_TextOk.f k a0_4).bind fun t290 => (some t290)) else (some false))) else (some false)) else (if a0_0 = 3 then ((spec_l3Name.f a0_2).bind fun t291 => (if t291 = true then (if a0_3 = 0 then (some (a0_4.toList == ([] : List UInt8))) else (some false)) else (some false))) else (if a0_0 = 4 then (if a0_2.toList = ([] : List UInt8) then (if a0_3 = 0 then (some (a0_4.toList == ([] : List UInt8))) else (some false)) else (some false)) else (some false))))) else (some false))) = some r := h
 clear h
 replace H := obs H
 obtain ⟨t287, A20, H⟩ := H
 replace H : (if t287 = true then (if a0_0 = 1 then (if a0_2.toList = ([] : List UInt8) then ((spec_l6In.f a0_3 1 6).bind fun t288 => (if t288 = true then (some (a0_4.toList == ([] : List UInt8))) else (some false))) else (some false)) else (if a0_0 = 2 then (if a0_2.toList = ([] : List UInt8) then ((spec_l6In.f a0_3 0 5).bind fun t289 => (if t289 = true then ((spec_TextOk.f k a0_4).bind fun t290 => (some t290)) else (some false))) else (some false)) else (if a0_0 = 3 then ((spec_l3Name.f a0_2).bind fun t291 => (if t291 = true then (if a0_3 = 0 then (some (a0_4.toList == ([] : List UInt8))) else (some false)) else (some false))) else (if a0_0 = 4 then (if a0_2.toList = ([] : List UInt8) then (if a0_3 = 0 then (some (a0_4.toList == ([] : List UInt8))) else (some false)) else (some false)) else (some false))))) else (some false)) = some r := H
 have A2 := am A20
 clear A20
 by_cases c3 : t287 = true
 rotate_left
 · replace c3 := Bool.eq_false_iff.mpr c3
   subst c3
   have H1 : (some false) = some r := by rw [if_neg (show ¬ (false = true) by decide)] at H; exact H
   clear H
   have H := H1
   clear H1
   obtain rfl := Option.some.inj H
   go_enter Try.func83, Try.ntmps83
   go_wp2_with (first | ((with_reducible refine gate_dst (N := 1) rfl ?_); refine bx 103 #[.int .i64 a0_0, .string a0_1, .string a0_2, .int .i64 a0_3, .string a0_4] ?_; intro gb286 hg w46 hbox hb; have BK286 := am (hbox); have GW286 := am (zn hg (zb HB)); have GE286 := am (zn hg (zb HB)); replace HB := am (below_step (zb HB) hb); clear hb hbox hg; have hcz47_0 := ce0 BK286; have hcz47_1 := ce1 BK286; have hcz47_2 := ce2 BK286; have hcz47_3 := ce3 BK286; have hcz47_4 := ce4 BK286; have hfz47_0 := bfz BK286 0; have hfz47_1 := bfz BK286 1; have hfz47_2 := bfz BK286 2; have hfz47_3 := bfz BK286 3; have hfz47_4 := bfz BK286 4) | ((with_reducible refine gate_callee (f := 56) rfl ?_); refine gl Try.func56 5 #[.string a0_1] rfl rfl rfl ?_; (with_reducible refine (spec_l3Name.calls a0_1 false _ A2.out).mono ?_); rintro e w' ⟨rfl, ⟨nd, rfl⟩⟩; refine ⟨_, rfl, ?_⟩))
   go_ret
   exact ⟨zv, (zb HB)⟩
 subst c3
 have H1 : (if a0_0 = 1 then (if a0_2.toList = ([] : List UInt8) then ((spec_l6In.f a0_3 1 6).bind fun t288 => (if t288 = true then (some (a0_4.toList == ([] : List UInt8))) else (some false))) else (some false)) else (if a0_0 = 2 then (if a0_2.toList = ([] : List UInt8) then ((spec_l6In.f a0_3 0 5).bind fun t289 => (if t289 = true then ((spec_TextOk.f k a0_4).bind fun t290 => (some t290)) else (some false))) else (some false)) else (if a0_0 = 3 then ((spec_l3Name.f a0_2).bind fun t291 => (if t291 = true then (if a0_3 = 0 then (some (a0_4.toList == ([] : List UInt8))) else (some false)) else (some false))) else (if a0_0 = 4 then (if a0_2.toList = ([] : List UInt8) then (if a0_3 = 0 then (some (a0_4.toList == ([] : List UInt8))) else (some false)) else (some false)) else (some false))))) = some r := by rw [if_pos rfl] at H; exact H
 clear H
 have H := H1
 clear H1
 by_cases c4 : a0_0 = 1
 · rw [if_pos c4] at H
   have c4b0 : (a0_0 == 1) = true := beq_iff_eq.mpr c4
   have c4b1 : (a0_0 != 1) = false := bne_eq_false_iff_eq.mpr c4
   clear c4
   by_cases c5 : a0_2.toList = ([] : List UInt8)
   rotate_left
   · rw [if_neg c5] at H
     have c5b0 : (a0_2.toList == ([] : List UInt8)) = false := beq_eq_false_iff_ne.mpr c5
     have c5b1 : (a0_2.toList != ([] : List UInt8)) = true := bne_iff_ne.mpr c5
     obtain rfl := Option.some.inj H
     go_enter Try.func83, Try.ntmps83
     go_wp2_with (first | ((with_reducible refine gate_dst (N := 1) rfl ?_); refine bx 103 #[.int .i64 a0_0, .string a0_1, .string a0_2, .int .i64 a0_3, .string a0_4] ?_; intro gb286 hg w12 hbox hb; have BK286 := am (hbox); have GW286 := am (zn hg (zb HB)); have GE286 := am (zn hg (zb HB)); replace HB := am (below_step (zb HB) hb); clear hb hbox hg; have hcz13_0 := ce0 BK286; have hcz13_1 := ce1 BK286; have hcz13_2 := ce2 BK286; have hcz13_3 := ce3 BK286; have hcz13_4 := ce4 BK286; have hfz13_0 := bfz BK286 0; have hfz13_1 := bfz BK286 1; have hfz13_2 := bfz BK286 2; have hfz13_3 := bfz BK286 3; have hfz13_4 := bfz BK286 4) | ((with_reducible refine gate_callee (f := 56) rfl ?_); refine gl Try.func56 5 #[.string a0_1] rfl rfl rfl ?_; (with_reducible refine (spec_l3Name.calls a0_1 true _ A2.out).mono ?_); rintro e w' ⟨rfl, ⟨nd, rfl⟩⟩; refine ⟨_, rfl, ?_⟩))
     go_ret
     exact ⟨zv, (zb HB)⟩
   rw [if_pos c5] at H
   have c5b0 : (a0_2.toList == ([] : List UInt8)) = true := beq_iff_eq.mpr c5
   have c5b1 : (a0_2.toList != ([] : List UInt8)) = false := bne_eq_false_iff_eq.mpr c5
   clear c5
   replace H := obs H
   obtain ⟨t288, A60, H⟩ := H
   replace H : (if t288 = true then (some (a0_4.toList == ([] : List UInt8))) else (some false)) = some r := H
   have A6 := am A60
   clear A60
   by_cases c7 : t288 = true
   · subst c7
     have H1 : (some (a0_4.toList == ([] : List UInt8))) = some r := by rw [if_pos rfl] at H; exact H
     clear H
     have H := H1
     clear H1
     obtain rfl := Option.some.inj H
     go_enter Try.func83, Try.ntmps83
     go_wp2_with (first | ((with_reducible refine gate_dst (N := 1) rfl ?_); refine bx 103 #[.int .i64 a0_0, .string a0_1, .string a0_2, .int .i64 a0_3, .string a0_4] ?_; intro gb286 hg w8 hbox hb; have BK286 := am (hbox); have GW286 := am (zn hg (zb HB)); have GE286 := am (zn hg (zb HB)); replace HB := am (below_step (zb HB) hb); clear hb hbox hg; have hcz9_0 := ce0 BK286; have hcz9_1 := ce1 BK286; have hcz9_2 := ce2 BK286; have hcz9_3 := ce3 BK286; have hcz9_4 := ce4 BK286; have hfz9_0 := bfz BK286 0; have hfz9_1 := bfz BK286 1; have hfz9_2 := bfz BK286 2; have hfz9_3 := bfz BK286 3; have hfz9_4 := bfz BK286 4) | ((with_reducible refine gate_callee (f := 56) rfl ?_); refine gl Try.func56 5 #[.string a0_1] rfl rfl rfl ?_; (with_reducible refine (spec_l3Name.calls a0_1 true _ A2.out).mono ?_); rintro e w' ⟨rfl, ⟨nd, rfl⟩⟩; refine ⟨_, rfl, ?_⟩) | (go_at_call 55; (with_reducible refine (spec_l6In.calls a0_3 1 6 true _ A6.out).mono ?_); rintro e w' ⟨rfl, ⟨nd, rfl⟩⟩))
     go_ret
     exact ⟨zv, (zb HB)⟩
   replace c7 := Bool.eq_false_iff.mpr c7
   subst c7
   have H1 : (some false) = some r := by rw [if_neg (show ¬ (false = true) by decide)] at H; exact H
   clear H
   have H := H1
   clear H1
   obtain rfl := Option.some.inj H
   go_enter Try.func83, Try.ntmps83
   go_wp2_with (first | ((with_reducible refine gate_dst (N := 1) rfl ?_); refine bx 103 #[.int .i64 a0_0, .string a0_1, .string a0_2, .int .i64 a0_3, .string a0_4] ?_; intro gb286 hg w10 hbox hb; have BK286 := am (hbox); have GW286 := am (zn hg (zb HB)); have GE286 := am (zn hg (zb HB)); replace HB := am (below_step (zb HB) hb); clear hb hbox hg; have hcz11_0 := ce0 BK286; have hcz11_1 := ce1 BK286; have hcz11_2 := ce2 BK286; have hcz11_3 := ce3 BK286; have hcz11_4 := ce4 BK286; have hfz11_0 := bfz BK286 0; have hfz11_1 := bfz BK286 1; have hfz11_2 := bfz BK286 2; have hfz11_3 := bfz BK286 3; have hfz11_4 := bfz BK286 4) | ((with_reducible refine gate_callee (f := 56) rfl ?_); refine gl Try.func56 5 #[.string a0_1] rfl rfl rfl ?_; (with_reducible refine (spec_l3Name.calls a0_1 true _ A2.out).mono ?_); rintro e w' ⟨rfl, ⟨nd, rfl⟩⟩; refine ⟨_, rfl, ?_⟩) | (go_at_call 55; (with_reducible refine (spec_l6In.calls a0_3 1 6 false _ A6.out).mono ?_); rintro e w' ⟨rfl, ⟨nd, rfl⟩⟩))
   go_ret
   exact ⟨zv, (zb HB)⟩
 rw [if_neg c4] at H
 have c4b0 : (a0_0 == 1) = false := beq_eq_false_iff_ne.mpr c4
 have c4b1 : (a0_0 != 1) = true := bne_iff_ne.mpr c4
 by_cases c14 : a0_0 = 2
 · rw [if_pos c14] at H
   have c14b0 : (a0_0 == 2) = true := beq_iff_eq.mpr c14
   have c14b1 : (a0_0 != 2) = false := bne_eq_false_iff_eq.mpr c14
   clear c14
   by_cases c15 : a0_2.toList = ([] : List UInt8)
   rotate_left
   · rw [if_neg c15] at H
     have c15b0 : (a0_2.toList == ([] : List UInt8)) = false := beq_eq_false_iff_ne.mpr c15
     have c15b1 : (a0_2.toList != ([] : List UInt8)) = true := bne_iff_ne.mpr c15
     obtain rfl := Option.some.inj H
     go_enter Try.func83, Try.ntmps83
     go_wp2_with (first | ((with_reducible refine gate_dst (N := 1) rfl ?_); refine bx 103 #[.int .i64 a0_0, .string a0_1, .string a0_2, .int .i64 a0_3, .string a0_4] ?_; intro gb286 hg w23 hbox hb; have BK286 := am (hbox); have GW286 := am (zn hg (zb HB)); have GE286 := am (zn hg (zb HB)); replace HB := am (below_step (zb HB) hb); clear hb hbox hg; have hcz24_0 := ce0 BK286; have hcz24_1 := ce1 BK286; have hcz24_2 := ce2 BK286; have hcz24_3 := ce3 BK286; have hcz24_4 := ce4 BK286; have hfz24_0 := bfz BK286 0; have hfz24_1 := bfz BK286 1; have hfz24_2 := bfz BK286 2; have hfz24_3 := bfz BK286 3; have hfz24_4 := bfz BK286 4) | ((with_reducible refine gate_callee (f := 56) rfl ?_); refine gl Try.func56 5 #[.string a0_1] rfl rfl rfl ?_; (with_reducible refine (spec_l3Name.calls a0_1 true _ A2.out).mono ?_); rintro e w' ⟨rfl, ⟨nd, rfl⟩⟩; refine ⟨_, rfl, ?_⟩))
     go_ret
     exact ⟨zv, (zb HB)⟩
   rw [if_pos c15] at H
   have c15b0 : (a0_2.toList == ([] : List UInt8)) = true := beq_iff_eq.mpr c15
   have c15b1 : (a0_2.toList != ([] : List UInt8)) = false := bne_eq_false_iff_eq.mpr c15
   clear c15
   replace H := obs H
   obtain ⟨t289, A160, H⟩ := H
   replace H : (if t289 = true then ((spec_TextOk.f k a0_4).bind fun t290 => (some t290)) else (some false)) = some r := H
   have A16 := am A160
   clear A160
   by_cases c17 : t289 = true
   rotate_left
   · replace c17 := Bool.eq_false_iff.mpr c17
     subst c17
     have H1 : (some false) = some r := by rw [if_neg (show ¬ (false = true) by decide)] at H; exact H
     clear H
     have H := H1
     clear H1
     obtain rfl := Option.some.inj H
     go_enter Try.func83, Try.ntmps83
     go_wp2_with (first | ((with_reducible refine gate_dst (N := 1) rfl ?_); refine bx 103 #[.int .i64 a0_0, .string a0_1, .string a0_2, .int .i64 a0_3, .string a0_4] ?_; intro gb286 hg w21 hbox hb; have BK286 := am (hbox); have GW286 := am (zn hg (zb HB)); have GE286 := am (zn hg (zb HB)); replace HB := am (below_step (zb HB) hb); clear hb hbox hg; have hcz22_0 := ce0 BK286; have hcz22_1 := ce1 BK286; have hcz22_2 := ce2 BK286; have hcz22_3 := ce3 BK286; have hcz22_4 := ce4 BK286; have hfz22_0 := bfz BK286 0; have hfz22_1 := bfz BK286 1; have hfz22_2 := bfz BK286 2; have hfz22_3 := bfz BK286 3; have hfz22_4 := bfz BK286 4) | ((with_reducible refine gate_callee (f := 56) rfl ?_); refine gl Try.func56 5 #[.string a0_1] rfl rfl rfl ?_; (with_reducible refine (spec_l3Name.calls a0_1 true _ A2.out).mono ?_); rintro e w' ⟨rfl, ⟨nd, rfl⟩⟩; refine ⟨_, rfl, ?_⟩) | (go_at_call 55; (with_reducible refine (spec_l6In.calls a0_3 0 5 false _ A16.out).mono ?_); rintro e w' ⟨rfl, ⟨nd, rfl⟩⟩))
     go_ret
     exact ⟨zv, (zb HB)⟩
   subst c17
   have H1 : ((spec_TextOk.f k a0_4).bind fun t290 => (some t290)) = some r := by rw [if_pos rfl] at H; exact H
   clear H
   have H := H1
   clear H1
   replace H := obs H
   obtain ⟨t290, A180, H⟩ := H
   replace H : (some t290) = some r := H
   have A18 := am A180
   clear A180
   obtain rfl := Option.some.inj H
   go_enter Try.func83, Try.ntmps83
   go_wp2_with (first | ((with_reducible refine gate_dst (N := 1) rfl ?_); refine bx 103 #[.int .i64 a0_0, .string a0_1, .string a0_2, .int .i64 a0_3, .string a0_4] ?_; intro gb286 hg w19 hbox hb; have BK286 := am (hbox); have GW286 := am (zn hg (zb HB)); have GE286 := am (zn hg (zb HB)); replace HB := am (below_step (zb HB) hb); clear hb hbox hg; have hcz20_0 := ce0 BK286; have hcz20_1 := ce1 BK286; have hcz20_2 := ce2 BK286; have hcz20_3 := ce3 BK286; have hcz20_4 := ce4 BK286; have hfz20_0 := bfz BK286 0; have hfz20_1 := bfz BK286 1; have hfz20_2 := bfz BK286 2; have hfz20_3 := bfz BK286 3; have hfz20_4 := bfz BK286 4) | ((with_reducible refine gate_callee (f := 56) rfl ?_); refine gl Try.func56 5 #[.string a0_1] rfl rfl rfl ?_; (with_reducible refine (spec_l3Name.calls a0_1 true _ A2.out).mono ?_); rintro e w' ⟨rfl, ⟨nd, rfl⟩⟩; refine ⟨_, rfl, ?_⟩) | (go_at_call 55; (with_reducible refine (spec_l6In.calls a0_3 0 5 true _ A16.out).mono ?_); rintro e w' ⟨rfl, ⟨nd, rfl⟩⟩) | (go_at_call 65; (with_reducible refine (spec_TextOk.calls k a0_4 t290 _ A18.out).mono ?_); rintro e w' ⟨rfl, ⟨nd, rfl⟩⟩))
   go_ret
   exact ⟨zv, (zb HB)⟩
 rw [if_neg c14] at H
 have c14b0 : (a0_0 == 2) = false := beq_eq_false_iff_ne.mpr c14
 have c14b1 : (a0_0 != 2) = true := bne_iff_ne.mpr c14
 by_cases c25 : a0_0 = 3
 · rw [if_pos c25] at H
   have c25b0 : (a0_0 == 3) = true := beq_iff_eq.mpr c25
   have c25b1 : (a0_0 != 3) = false := bne_eq_false_iff_eq.mpr c25
   clear c25
   replace H := obs H
   obtain ⟨t291, A260, H⟩ := H
   replace H : (if t291 = true then (if a0_3 = 0 then (some (a0_4.toList == ([] : List UInt8))) else (some false)) else (some false)) = some r := H
   have A26 := am A260
   clear A260
   by_cases c27 : t291 = true
   rotate_left
   · replace c27 := Bool.eq_false_iff.mpr c27
     subst c27
     have H1 : (some false) = some r := by rw [if_neg (show ¬ (false = true) by decide)] at H; exact H
     clear H
     have H := H1
     clear H1
     obtain rfl := Option.some.inj H
     go_enter Try.func83, Try.ntmps83
     go_wp2_with (first | ((with_reducible refine gate_dst (N := 1) rfl ?_); refine bx 103 #[.int .i64 a0_0, .string a0_1, .string a0_2, .int .i64 a0_3, .string a0_4] ?_; intro gb286 hg w33 hbox hb; have BK286 := am (hbox); have GW286 := am (zn hg (zb HB)); have GE286 := am (zn hg (zb HB)); replace HB := am (below_step (zb HB) hb); clear hb hbox hg; have hcz34_0 := ce0 BK286; have hcz34_1 := ce1 BK286; have hcz34_2 := ce2 BK286; have hcz34_3 := ce3 BK286; have hcz34_4 := ce4 BK286; have hfz34_0 := bfz BK286 0; have hfz34_1 := bfz BK286 1; have hfz34_2 := bfz BK286 2; have hfz34_3 := bfz BK286 3; have hfz34_4 := bfz BK286 4) | ((with_reducible refine gate_callee (f := 56) rfl ?_); refine gl Try.func56 5 #[.string a0_1] rfl rfl rfl ?_; (with_reducible refine (spec_l3Name.calls a0_1 true _ A2.out).mono ?_); rintro e w' ⟨rfl, ⟨nd, rfl⟩⟩; refine ⟨_, rfl, ?_⟩) | ((with_reducible refine gate_callee (f := 56) rfl ?_); refine gl Try.func56 43 #[.string a0_2] rfl rfl rfl ?_; (with_reducible refine (spec_l3Name.calls a0_2 false _ A26.out).mono ?_); rintro e w' ⟨rfl, ⟨nd, rfl⟩⟩; refine ⟨_, rfl, ?_⟩))
     go_ret
     exact ⟨zv, (zb HB)⟩
   subst c27
   have H1 : (if a0_3 = 0 then (some (a0_4.toList == ([] : List UInt8))) else (some false)) = some r := by rw [if_pos rfl] at H; exact H
   clear H
   have H := H1
   clear H1
   by_cases c28 : a0_3 = 0
   · rw [if_pos c28] at H
     have c28b0 : (a0_3 == 0) = true := beq_iff_eq.mpr c28
     have c28b1 : (a0_3 != 0) = false := bne_eq_false_iff_eq.mpr c28
     clear c28
     obtain rfl := Option.some.inj H
     go_enter Try.func83, Try.ntmps83
     go_wp2_with (first | ((with_reducible refine gate_dst (N := 1) rfl ?_); refine bx 103 #[.int .i64 a0_0, .string a0_1, .string a0_2, .int .i64 a0_3, .string a0_4] ?_; intro gb286 hg w29 hbox hb; have BK286 := am (hbox); have GW286 := am (zn hg (zb HB)); have GE286 := am (zn hg (zb HB)); replace HB := am (below_step (zb HB) hb); clear hb hbox hg; have hcz30_0 := ce0 BK286; have hcz30_1 := ce1 BK286; have hcz30_2 := ce2 BK286; have hcz30_3 := ce3 BK286; have hcz30_4 := ce4 BK286; have hfz30_0 := bfz BK286 0; have hfz30_1 := bfz BK286 1; have hfz30_2 := bfz BK286 2; have hfz30_3 := bfz BK286 3; have hfz30_4 := bfz BK286 4) | ((with_reducible refine gate_callee (f := 56) rfl ?_); refine gl Try.func56 5 #[.string a0_1] rfl rfl rfl ?_; (with_reducible refine (spec_l3Name.calls a0_1 true _ A2.out).mono ?_); rintro e w' ⟨rfl, ⟨nd, rfl⟩⟩; refine ⟨_, rfl, ?_⟩) | ((with_reducible refine gate_callee (f := 56) rfl ?_); refine gl Try.func56 43 #[.string a0_2] rfl rfl rfl ?_; (with_reducible refine (spec_l3Name.calls a0_2 true _ A26.out).mono ?_); rintro e w' ⟨rfl, ⟨nd, rfl⟩⟩; refine ⟨_, rfl, ?_⟩))
     go_ret
     exact ⟨zv, (zb HB)⟩
   rw [if_neg c28] at H
   have c28b0 : (a0_3 == 0) = false := beq_eq_false_iff_ne.mpr c28
   have c28b1 : (a0_3 != 0) = true := bne_iff_ne.mpr c28
   obtain rfl := Option.some.inj H
   go_enter Try.func83, Try.ntmps83
   go_wp2_with (first | ((with_reducible refine gate_dst (N := 1) rfl ?_); refine bx 103 #[.int .i64 a0_0, .string a0_1, .string a0_2, .int .i64 a0_3, .string a0_4] ?_; intro gb286 hg w31 hbox hb; have BK286 := am (hbox); have GW286 := am (zn hg (zb HB)); have GE286 := am (zn hg (zb HB)); replace HB := am (below_step (zb HB) hb); clear hb hbox hg; have hcz32_0 := ce0 BK286; have hcz32_1 := ce1 BK286; have hcz32_2 := ce2 BK286; have hcz32_3 := ce3 BK286; have hcz32_4 := ce4 BK286; have hfz32_0 := bfz BK286 0; have hfz32_1 := bfz BK286 1; have hfz32_2 := bfz BK286 2; have hfz32_3 := bfz BK286 3; have hfz32_4 := bfz BK286 4) | ((with_reducible refine gate_callee (f := 56) rfl ?_); refine gl Try.func56 5 #[.string a0_1] rfl rfl rfl ?_; (with_reducible refine (spec_l3Name.calls a0_1 true _ A2.out).mono ?_); rintro e w' ⟨rfl, ⟨nd, rfl⟩⟩; refine ⟨_, rfl, ?_⟩) | ((with_reducible refine gate_callee (f := 56) rfl ?_); refine gl Try.func56 43 #[.string a0_2] rfl rfl rfl ?_; (with_reducible refine (spec_l3Name.calls a0_2 true _ A26.out).mono ?_); rintro e w' ⟨rfl, ⟨nd, rfl⟩⟩; refine ⟨_, rfl, ?_⟩))
   go_ret
   exact ⟨zv, (zb HB)⟩
 rw [if_neg c25] at H
 have c25b0 : (a0_0 == 3) = false := beq_eq_false_iff_ne.mpr c25
 have c25b1 : (a0_0 != 3) = true := bne_iff_ne.mpr c25
 by_cases c35 : a0_0 = 4
 rotate_left
 · rw [if_neg c35] at H
   have c35b0 : (a0_0 == 4) = false := beq_eq_false_iff_ne.mpr c35
   have c35b1 : (a0_0 != 4) = true := bne_iff_ne.mpr c35
   obtain rfl := Option.some.inj H
   go_enter Try.func83, Try.ntmps83
   go_wp2_with (first | ((with_reducible refine gate_dst (N := 1) rfl ?_); refine bx 103 #[.int .i64 a0_0, .string a0_1, .string a0_2, .int .i64 a0_3, .string a0_4] ?_; intro gb286 hg w44 hbox hb; have BK286 := am (hbox); have GW286 := am (zn hg (zb HB)); have GE286 := am (zn hg (zb HB)); replace HB := am (below_step (zb HB) hb); clear hb hbox hg; have hcz45_0 := ce0 BK286; have hcz45_1 := ce1 BK286; have hcz45_2 := ce2 BK286; have hcz45_3 := ce3 BK286; have hcz45_4 := ce4 BK286; have hfz45_0 := bfz BK286 0; have hfz45_1 := bfz BK286 1; have hfz45_2 := bfz BK286 2; have hfz45_3 := bfz BK286 3; have hfz45_4 := bfz BK286 4) | ((with_reducible refine gate_callee (f := 56) rfl ?_); refine gl Try.func56 5 #[.string a0_1] rfl rfl rfl ?_; (with_reducible refine (spec_l3Name.calls a0_1 true _ A2.out).mono ?_); rintro e w' ⟨rfl, ⟨nd, rfl⟩⟩; refine ⟨_, rfl, ?_⟩))
   go_ret
   exact ⟨zv, (zb HB)⟩
 rw [if_pos c35] at H
 have c35b0 : (a0_0 == 4) = true := beq_iff_eq.mpr c35
 have c35b1 : (a0_0 != 4) = false := bne_eq_false_iff_eq.mpr c35
 clear c35
 by_cases c36 : a0_2.toList = ([] : List UInt8)
 rotate_left
 · rw [if_neg c36] at H
   have c36b0 : (a0_2.toList == ([] : List UInt8)) = false := beq_eq_false_iff_ne.mpr c36
   have c36b1 : (a0_2.toList != ([] : List UInt8)) = true := bne_iff_ne.mpr c36
   obtain rfl := Option.some.inj H
   go_enter Try.func83, Try.ntmps83
   go_wp2_with (first | ((with_reducible refine gate_dst (N := 1) rfl ?_); refine bx 103 #[.int .i64 a0_0, .string a0_1, .string a0_2, .int .i64 a0_3, .string a0_4] ?_; intro gb286 hg w42 hbox hb; have BK286 := am (hbox); have GW286 := am (zn hg (zb HB)); have GE286 := am (zn hg (zb HB)); replace HB := am (below_step (zb HB) hb); clear hb hbox hg; have hcz43_0 := ce0 BK286; have hcz43_1 := ce1 BK286; have hcz43_2 := ce2 BK286; have hcz43_3 := ce3 BK286; have hcz43_4 := ce4 BK286; have hfz43_0 := bfz BK286 0; have hfz43_1 := bfz BK286 1; have hfz43_2 := bfz BK286 2; have hfz43_3 := bfz BK286 3; have hfz43_4 := bfz BK286 4) | ((with_reducible refine gate_callee (f := 56) rfl ?_); refine gl Try.func56 5 #[.string a0_1] rfl rfl rfl ?_; (with_reducible refine (spec_l3Name.calls a0_1 true _ A2.out).mono ?_); rintro e w' ⟨rfl, ⟨nd, rfl⟩⟩; refine ⟨_, rfl, ?_⟩))
   go_ret
   exact ⟨zv, (zb HB)⟩
 rw [if_pos c36] at H
 have c36b0 : (a0_2.toList == ([] : List UInt8)) = true := beq_iff_eq.mpr c36
 have c36b1 : (a0_2.toList != ([] : List UInt8)) = false := bne_eq_false_iff_eq.mpr c36
 clear c36
 by_cases c37 : a0_3 = 0
 · rw [if_pos c37] at H
   have c37b0 : (a0_3 == 0) = true := beq_iff_eq.mpr c37
   have c37b1 : (a0_3 != 0) = false := bne_eq_false_iff_eq.mpr c37
   clear c37
   obtain rfl := Option.some.inj H
   go_enter Try.func83, Try.ntmps83
   go_wp2_with (first | ((with_reducible refine gate_dst (N := 1) rfl ?_); refine bx 103 #[.int .i64 a0_0, .string a0_1, .string a0_2, .int .i64 a0_3, .string a0_4] ?_; intro gb286 hg w38 hbox hb; have BK286 := am (hbox); have GW286 := am (zn hg (zb HB)); have GE286 := am (zn hg (zb HB)); replace HB := am (below_step (zb HB) hb); clear hb hbox hg; have hcz39_0 := ce0 BK286; have hcz39_1 := ce1 BK286; have hcz39_2 := ce2 BK286; have hcz39_3 := ce3 BK286; have hcz39_4 := ce4 BK286; have hfz39_0 := bfz BK286 0; have hfz39_1 := bfz BK286 1; have hfz39_2 := bfz BK286 2; have hfz39_3 := bfz BK286 3; have hfz39_4 := bfz BK286 4) | ((with_reducible refine gate_callee (f := 56) rfl ?_); refine gl Try.func56 5 #[.string a0_1] rfl rfl rfl ?_; (with_reducible refine (spec_l3Name.calls a0_1 true _ A2.out).mono ?_); rintro e w' ⟨rfl, ⟨nd, rfl⟩⟩; refine ⟨_, rfl, ?_⟩))
   go_ret
   exact ⟨zv, (zb HB)⟩
 rw [if_neg c37] at H
 have c37b0 : (a0_3 == 0) = false := beq_eq_false_iff_ne.mpr c37
 have c37b1 : (a0_3 != 0) = true := bne_iff_ne.mpr c37
 obtain rfl := Option.some.inj H
 go_enter Try.func83, Try.ntmps83
 go_wp2_with (first | ((with_reducible refine gate_dst (N := 1) rfl ?_); refine bx 103 #[.int .i64 a0_0, .string a0_1, .string a0_2, .int .i64 a0_3, .string a0_4] ?_; intro gb286 hg w40 hbox hb; have BK286 := am (hbox); have GW286 := am (zn hg (zb HB)); have GE286 := am (zn hg (zb HB)); replace HB := am (below_step (zb HB) hb); clear hb hbox hg; have hcz41_0 := ce0 BK286; have hcz41_1 := ce1 BK286; have hcz41_2 := ce2 BK286; have hcz41_3 := ce3 BK286; have hcz41_4 := ce4 BK286; have hfz41_0 := bfz BK286 0; have hfz41_1 := bfz BK286 1; have hfz41_2 := bfz BK286 2; have hfz41_3 := bfz BK286 3; have hfz41_4 := bfz BK286 4) | ((with_reducible refine gate_callee (f := 56) rfl ?_); refine gl Try.func56 5 #[.string a0_1] rfl rfl rfl ?_; (with_reducible refine (spec_l3Name.calls a0_1 true _ A2.out).mono ?_); rintro e w' ⟨rfl, ⟨nd, rfl⟩⟩; refine ⟨_, rfl, ?_⟩))
 go_ret
 exact ⟨zv, (zb HB)⟩
/-! ### spec_l6Rd_of: function 52 -/
def spec_l6Rd_of.f (k : Nat) (s0_0 : List Int) (s0_1 : Int) (l1 : List ByteArray) : Option (ByteArray × Int) := (spec_l6Rd_pick.f k s0_0 s0_1 (l1.length : Int)).bind fun bt292 => (if 0 ≤ bt292.1 then (if bt292.1 < (l1.length : Int) then (some (rdOf ByteArray.empty l1 bt292.1, bt292.2)) else (none)) else (none))
theorem spec_l6Rd_of.mono : ∀ a0 a1 a2 k, LeO (spec_l6Rd_of.f k a0 a1 a2) (spec_l6Rd_of.f (k + 1) a0 a1 a2) := by
 intro a0 a1 a2 k
 unfold spec_l6Rd_of.f
 exact mo1 @spec_l6Rd_pick.mono
set_option maxHeartbeats 8000000 in
set_option maxRecDepth 100000 in
theorem spec_l6Rd_of.calls (k : Nat) (g : Nat) (s0_0 : List Int) (s0_1 : Int) (A1 : Option Addr) (c1 : Nat) (l1 : List ByteArray) (r1 : ByteArray) (r2 : Int) (w0 w : World) (hI : IsS93 w0 w g s0_0 s0_1) (hB : Below w0.heap.size w0 w) (hr1 : Kd.C Kd.string w A1 l1.length l1) (hc1 : l1.length ≤ c1) (hf1 : ∀ ad, A1 = some ad → 0 < l1.length → ad.block ≠ g) (h : spec_l6Rd_of.f k s0_0 s0_1 l1 = some (r1, r2)) :
 Calls Try.prog 52 #[.pointer (some ⟨g, 0, none⟩), .slice A1 l1.length c1] w fun e w' => e = .returned (.string r1) ∧ IsS93 w0 w' g s0_0 r2 ∧ Below w0.heap.size w0 w' ∧ KeepBut w w' g none := by
 have HR1 := am hr1
 have HC1 := am hc1
 clear hr1 hc1
 have HI0 := am hI
 have HK := am (KeepBut.refl w g none)
 have HL := am hB.size
 clear hI
 have HW0 := am hB.size
 have HB := am hB
 clear hB
 have H : ((spec_l6Rd_pick.f k s0_0 s0_1 (l1.length : Int)).bind fun bt292 => (if 0 ≤ bt292.1 then (if bt292.1 < (l1.length : Int) then (some (rdOf ByteArray.empty l1 bt292.1, bt292.2)) else (none)) else (none))) = some (r1, r2) := h
 clear h
 replace H := obs H
 obtain ⟨⟨t292, t293⟩, A30, H⟩ := H
 replace H : (if 0 ≤ t292 then (if t292 < (l1.length : Int) then (some (rdOf ByteArray.empty l1 t292, t293)) else (none)) else (none)) = some (r1, r2) := H
 have A3 := am A30
 clear A30
 by_cases c4 : 0 ≤ t292
 rotate_left
 · rw [if_neg c4] at H
   exact absurd H (by simp)
 rw [if_pos c4] at H
 have c4b0 : decide (0 ≤ t292) = true := decide_eq_true c4
 clear c4
 by_cases c5 : t292 < (l1.length : Int)
 rotate_left
 · rw [if_neg c5] at H
   exact absurd H (by simp)
 rw [if_pos c5] at H
 have c5b0 : decide (t292 < (l1.length : Int)) = true := decide_eq_true c5
 clear c5
 simp only [Option.some.injEq, Prod.mk.injEq] at H
 obtain ⟨rfl, rfl⟩ := H
 go_enter Try.func52, Try.ntmps52
 go_wp2_with (first | ((with_reducible refine gate_callee (f := 51) rfl ?_); refine gl Try.func51 9 #[.pointer (some ⟨g, 0, none⟩), .int .i64 (l1.length : Int)] rfl rfl rfl ?_; (with_reducible refine (spec_l6Rd_pick.calls k g s0_0 s0_1 (l1.length : Int) t292 t293 w0 _ ?side1 ?side2 A3.out).mono ?_); (case side1 => exact zi HI0); (case side2 => exact zb HB); rintro e w6 ⟨rfl, hi, hb, hk⟩; refine ⟨_, rfl, ?_⟩; replace HK := am (KeepBut.trans (zh HK) hk (.inl rfl)); replace HB := am (hb); replace HI0 := am (hi); (try clear hb); (try clear hb2); (try clear hk); (try clear hi); have p294 : 0 ≤ (t292 : Int) := of_decide_eq_true zl; have q294 : t292 < (l1.length : Int) := of_decide_eq_true zl; obtain ⟨ad294, e294, hx294_0⟩ := Kd.at_string HR1.out t292 p294 q294; cases e294; replace hx294_0 := keep_cell HK.out hx294_0 (by first | (rw [add_block]; exact hf1 _ rfl (by omega)) | exact hf1 _ rfl (by omega) | exact hf1 ad294 rfl (by omega)); replace p294 := eq_true p294; replace q294 := eq_true q294))
 go_ret
 exact ⟨zv, (zi HI0), (zb HB), (zh HK)⟩
end Go.Proofs.Ytooamacekmjpaaa.PFnVolCount
