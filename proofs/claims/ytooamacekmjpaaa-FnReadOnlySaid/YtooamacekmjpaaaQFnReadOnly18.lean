/- The walk: each function that the law comes to as a plain Lean function, and a proof that the Go code answers so. Written by this session's program over the kit's printer. -/
import Derived.Test.YtooamacekmjpaaaZ
import Derived.Test.YtooamacekmjpaaaQFnReadOnly0
import Derived.Test.YtooamacekmjpaaaQFnReadOnly5
import Derived.Test.YtooamacekmjpaaaQFnReadOnly8
import Derived.Test.YtooamacekmjpaaaQFnReadOnly13
import Derived.Test.YtooamacekmjpaaaQFnReadOnly17
namespace Go.Proofs.Ytooamacekmjpaaa.PFnReadOnly
open Go.RowKit Go.Proofs.YtooamacekmjpaaaW.PrintWords Go.Proofs.YtooamacekmjpaaaW.PrintLast Go.Proofs.YtooamacekmjpaaaW.PrintMore
attribute [local go_sem] max2_int min2_int max_two min_two max_three min_three max_four min_four   -- for this text's walks alone
set_option linter.unusedVariables false
set_option linter.unusedSimpArgs false
/-! ### spec_l71Name: function 62 -/
def spec_l71Name.j0 : Nat → Bool → List Int → Int → List (S55) → List (S38) → Option (ByteArray × Int)
 | 0, _, _, _, _, _ => none
 | k + 1, x13, x1000, x1001, x505000, x505001 => if x13 = true then ((spec_l6Rd_pick.f k x1000 x1001 (x505001.length : Int)).bind fun bt507 => (if 0 ≤ bt507.1 then (if bt507.1 < (x505001.length : Int) then (some ((rd_T38 x505001 bt507.1).f0, bt507.2)) else (none)) else (none))) else ((spec_l6Rd_of.f k x1000 x1001 (([(⟨#[65]⟩ : ByteArray), (⟨#[66]⟩ : ByteArray), (⟨#[67]⟩ : ByteArray), (⟨#[68]⟩ : ByteArray), (⟨#[69]⟩ : ByteArray)] : List ByteArray))).bind fun bt513 => (some (bt513.1, bt513.2)))
def spec_l71Name.f (k : Nat) (s0_0 : List Int) (s0_1 : Int) (l1_0 : List (S55)) (l1_1 : List (S38)) : Option (ByteArray × Int) := if (l1_1.length : Int) > 0 then ((spec_l6Rd_pick.f k s0_0 s0_1 8).bind fun bt505 => (spec_l71Name.j0 k (decide (bt505.1 > 0)) s0_0 bt505.2 l1_0 l1_1)) else (spec_l71Name.j0 k false s0_0 s0_1 l1_0 l1_1)
theorem spec_l71Name.mono_l : ∀ k, (∀ y0 y1 y2 y3 y4, LeO (spec_l71Name.j0 k y0 y1 y2 y3 y4) (spec_l71Name.j0 (k + 1) y0 y1 y2 y3 y4))
 | 0 => fun _ _ _ _ _ r h => by simp [spec_l71Name.j0] at h
 | k + 1 => by
  have ih0 := spec_l71Name.mono_l k
  intro y0 y1 y2 y3 y4
  unfold spec_l71Name.j0
  exact mo3 ih0 @spec_l6Rd_of.mono @spec_l6Rd_pick.mono
theorem spec_l71Name.mono : ∀ a0 a1 a2 a3 k, LeO (spec_l71Name.f k a0 a1 a2 a3) (spec_l71Name.f (k + 1) a0 a1 a2 a3) := by
 intro a0 a1 a2 a3 k
 have ih0 := spec_l71Name.mono_l k
 unfold spec_l71Name.f
 exact mo3 ih0 @spec_l6Rd_of.mono @spec_l6Rd_pick.mono
def spec_l71Name.T2 : Bool × List (List Nat × List Nat) := (true, [([], []), ([0], [0]), ([], []), ([], []), ([3], [3]), ([4], [4]), ([2, 5], [2, 5]), ([1, 6], [1, 6]), ([7], [7]), ([8], [8]), ([9, 6, 0, 1, 2, 3, 4, 5, 6, 7, 8, 9], [9])])
def spec_l71Name.B2 : List Nat := [0, 1, 0, 0, 8, 24, 60, 127, 255, 511, 1023]
theorem spec_l71Name.tab2 : rtab .any (opsOf Try.f62 2) = spec_l71Name.T2 := by kernel_rfl
theorem spec_l71Name.bits2 : waitsOk spec_l71Name.T2.2 spec_l71Name.B2 = true := by kernel_rfl
set_option maxHeartbeats 8000000 in
set_option maxRecDepth 100000 in
theorem spec_l71Name.calls (k : Nat) (g : Nat) (s0_0 : List Int) (s0_1 : Int) (A1_0 : Option Addr) (c1_0 : Nat) (l1_0 : List (S55)) (A1_1 : Option Addr) (c1_1 : Nat) (l1_1 : List (S38)) (r1 : ByteArray) (r2 : Int) (w0 w : World) (hI : IsS93 w0 w g s0_0 s0_1) (hB : Below w0.heap.size w0 w) (hr1_0 : ∀ W_, KeepBut w W_ g none → Kd.C k55 W_ A1_0 l1_0.length l1_0) (hc1_0 : l1_0.length ≤ c1_0) (hr1_1 : ∀ W_, KeepBut w W_ g none → Kd.C k38 W_ A1_1 l1_1.length l1_1) (hc1_1 : l1_1.length ≤ c1_1) (h : spec_l71Name.f k s0_0 s0_1 l1_0 l1_1 = some (r1, r2)) :
 Calls Try.prog 62 #[.pointer (some ⟨g, 0, none⟩), .agg #[.slice A1_0 l1_0.length c1_0, .slice A1_1 l1_1.length c1_1]] w fun e w' => e = .returned (.string r1) ∧ IsS93 w0 w' g s0_0 r2 ∧ Below w0.heap.size w0 w' ∧ KeepBut w w' g none := by
 have hu31 := Try.underlying31
 have HR1_0 := am hr1_0
 have HC1_0 := am hc1_0
 clear hr1_0 hc1_0
 have HR1_1 := am hr1_1
 have HC1_1 := am hc1_1
 clear hr1_1 hc1_1
 have HI0 := am hI
 have HK := am (KeepBut.refl w g none)
 have HL := am hB.size
 clear hI
 have HW0 := am hB.size
 have HB := am hB
 clear hB
 have H : (if (l1_1.length : Int) > 0 then ((spec_l6Rd_pick.f k s0_0 s0_1 8).bind fun bt505 => (spec_l71Name.j0 k (decide (bt505.1 > 0)) s0_0 bt505.2 l1_0 l1_1)) else (spec_l71Name.j0 k false s0_0 s0_1 l1_0 l1_1)) = some (r1, r2) := h
 clear h
 have HC3 := am H
 clear H
 go_enter Try.func62, Try.ntmps62
 go_upto_region 1 with (first | ((with_reducible refine gate_dst (N := 3) rfl ?_); refine bx 31 #[.slice A1_0 l1_0.length c1_0, .slice A1_1 l1_1.length c1_1] ?_; intro gb504 hg w4 hbox hb; replace HB := am (below_step (zb HB) hb); have BK504 := am (hbox); have GW504 := am (zm hg (zh HK)); have GE504 := am ((Nat.le_trans HW0.out (zm hg (zh HK)))); replace HK := am (KeepBut.trans (zh HK) (KeepBut.of_below hb g none) (.inl rfl)); have NB0_504 := am (ix hg (zi HI0)); have NB504_0 := am (iy hg (zi HI0)); replace HI0 := am (IsS93.below (zi HI0) hb); clear hb hbox hg))
 (try simp only [Act.put, List.setIfInBounds_toArray, List.set_cons_zero, List.set_cons_succ])
 go_cut [13] (fun v13 wc => ∃ (kq : Nat) (x13_2 : Bool) (x1001_2 : Int), v13 = .bool x13_2 ∧ Aside0 (spec_l71Name.j0 kq x13_2 s0_0 x1001_2 l1_0 l1_1 = some (r1, r2)) ∧ Aside0 (kq ≤ k) ∧ Aside0 (wc.heap[gb504]? = some (.cells #[(.slice A1_0 l1_0.length c1_0), (.slice A1_1 l1_1.length c1_1)] 31 (0, 0))) ∧ Aside0 (IsS93 w0 wc g s0_0 x1001_2) ∧ Aside0 (KeepBut w wc g none) ∧ Aside0 (Below w0.heap.size w0 wc))
 case first =>
  have H := HC3.out
  clear HC3
  by_cases c5 : (l1_1.length : Int) > 0
  rotate_left
  · rw [if_neg c5] at H
    have c5b0 : decide (0 < (l1_1.length : Int)) = false := decide_eq_false c5
    have c5b1 : decide (0 < l1_1.length) = false := decide_eq_false (by omega)
    clear c5
    (first | rw [c5b0] | (simp only [i64_w, i32_w]; rw [c5b0]) | skip)
    have H' := am H
    clear H
    have hnb10 := NB504_0.out
    have hnc10 := NB0_504.out
    have hcz11_0 := ce0 BK504
    have hcz11_1 := ce1 BK504
    have hfz11_0 := bfz BK504 0
    have hfz11_1 := bfz BK504 1
    go_wp2
    go_meet
    case rel => exact ⟨_, (false), (s0_1), ze, H', ⟨by first | omega | exact Nat.le_refl _⟩, ⟨zk BK504⟩, ⟨zi HI0⟩, ⟨zh HK⟩, ⟨zb HB⟩⟩
  rw [if_pos c5] at H
  have c5b0 : decide (0 < (l1_1.length : Int)) = true := decide_eq_true c5
  have c5b1 : decide (0 < l1_1.length) = true := decide_eq_true (by omega)
  clear c5
  (first | rw [c5b0] | (simp only [i64_w, i32_w]; rw [c5b0]) | skip)
  replace H := obs H
  obtain ⟨⟨t505, t506⟩, A60, H⟩ := H
  replace H : (spec_l71Name.j0 k (decide (t505 > 0)) s0_0 t506 l1_0 l1_1) = some (r1, r2) := H
  have A6 := am A60
  clear A60
  have H' := am H
  clear H
  have hnb7 := NB504_0.out
  have hnc7 := NB0_504.out
  have hcz8_0 := ce0 BK504
  have hcz8_1 := ce1 BK504
  have hfz8_0 := bfz BK504 0
  have hfz8_1 := bfz BK504 1
  go_wp2_with (first | (go_at_call 51; (with_reducible refine (spec_l6Rd_pick.calls k g s0_0 s0_1 8 t505 t506 w0 _ ?side1 ?side2 A6.out).mono ?_); (case side1 => exact zi HI0); (case side2 => exact zb HB); rintro e w9 ⟨rfl, hi, hb, hk⟩; replace BK504 := am (KeepBut.blk hk (zk BK504) NB504_0.out (by simp)); replace HK := am (KeepBut.trans (zh HK) hk (.inl rfl)); replace HB := am (hb); replace HI0 := am (hi); (try clear hb); (try clear hb2); (try clear hk); (try clear hi)))
  go_meet
  case rel => exact ⟨_, (decide (t505 > 0)), (t506), ze, H', ⟨by first | omega | exact Nat.le_refl _⟩, ⟨zk BK504⟩, ⟨zi HI0⟩, ⟨zh HK⟩, ⟨zb HB⟩⟩
 clear HC3
 try clear c1
 try clear p2
 try clear c5
 try clear c5b0
 try clear c5b1
 try clear c6
 try clear c7
 try clear c10
 try clear hcz11_0
 try clear hcz11_1
 try clear hcz8_0
 try clear hcz8_1
 try clear hfz11_0
 try clear hfz11_1
 try clear hfz8_0
 try clear hfz8_1
 obtain ⟨kq, x13_2, x1001_2, rfl, HA, HJ2, BK504, HI0, HK, HB⟩ := hcut
 cases kq with
 | zero => exact absurd HA.out (by simp [spec_l71Name.j0])
 | succ kj2 =>
  have H := HA.out
  clear HA
  simp only [spec_l71Name.j0] at H
  by_cases c12 : x13_2 = true
  rotate_left
  · replace c12 := Bool.eq_false_iff.mpr c12
    subst c12
    have H1 : ((spec_l6Rd_of.f kj2 s0_0 x1001_2 (([(⟨#[65]⟩ : ByteArray), (⟨#[66]⟩ : ByteArray), (⟨#[67]⟩ : ByteArray), (⟨#[68]⟩ : ByteArray), (⟨#[69]⟩ : ByteArray)] : List ByteArray))).bind fun bt513 => (some (bt513.1, bt513.2))) = some (r1, r2) := by rw [if_neg (show ¬ (false = true) by decide)] at H; exact H
    clear H
    have H := H1
    clear H1
    obtain ⟨y510, hy510⟩ : ∃ y_ : List ByteArray, y_ = (([(⟨#[65]⟩ : ByteArray), (⟨#[66]⟩ : ByteArray), (⟨#[67]⟩ : ByteArray), (⟨#[68]⟩ : ByteArray), (⟨#[69]⟩ : ByteArray)] : List ByteArray)) := ⟨_, rfl⟩
    replace H : ((spec_l6Rd_of.f kj2 s0_0 x1001_2 y510).bind fun bt513 => (some (bt513.1, bt513.2))) = some (r1, r2) := hY hy510 H
    have Ny510 := am hy510
    clear hy510
    replace H := obs H
    obtain ⟨⟨t513, t514⟩, A180, H⟩ := H
    replace H : (some (t513, t514)) = some (r1, r2) := H
    have A18 := am A180
    clear A180
    simp only [Option.some.injEq, Prod.mk.injEq] at H
    obtain ⟨rfl, rfl⟩ := H
    go_wp2_with (first | ((with_reducible refine gate_dst (N := 25) rfl ?_); refine Kd.R_lit Kd.string _ 9 ?hg (N := 25) ?hd (xs := ([(⟨#[65]⟩ : ByteArray), (⟨#[66]⟩ : ByteArray), (⟨#[67]⟩ : ByteArray), (⟨#[68]⟩ : ByteArray), (⟨#[69]⟩ : ByteArray)] : List ByteArray)) (inner := [.string (⟨#[65]⟩ : ByteArray), .string (⟨#[66]⟩ : ByteArray), .string (⟨#[67]⟩ : ByteArray), .string (⟨#[68]⟩ : ByteArray), .string (⟨#[69]⟩ : ByteArray)]) (ok := fun _ => True) (okp := fun _ => True) ?hr ?hp (fun _ hk => hk) trivial (Below.refl _ _) (Nat.le_refl _) (by simp) ?_; (case hd => rfl); (case hg => rfl); (case hr => first | (go_simp; done) | (go_simp; rfl)); (case hp => exact (Reps.one (show Kd.M Kd.string _ _ _ (⟨#[65]⟩ : ByteArray) [.string (⟨#[65]⟩ : ByteArray)] from rfl) (Reps.one (show Kd.M Kd.string _ _ _ (⟨#[66]⟩ : ByteArray) [.string (⟨#[66]⟩ : ByteArray)] from rfl) (Reps.one (show Kd.M Kd.string _ _ _ (⟨#[67]⟩ : ByteArray) [.string (⟨#[67]⟩ : ByteArray)] from rfl) (Reps.one (show Kd.M Kd.string _ _ _ (⟨#[68]⟩ : ByteArray) [.string (⟨#[68]⟩ : ByteArray)] from rfl) (Reps.one (show Kd.M Kd.string _ _ _ (⟨#[69]⟩ : ByteArray) [.string (⟨#[69]⟩ : ByteArray)] from rfl) (Reps.none _ _))))))); intro v511 w19 ho20 hb hg_ hnew_; clear hg_ hnew_; (first | rw [← Ny510.out] at ho20 | (simp only [Int.reduceToNat] at ho20; rw [← Ny510.out] at ho20)); have HO512 := am (Kd.R_lower ho20 (keep_size (zh HK))); replace BK504 := am (blk_below (zk BK504) hb); replace HI0 := am (IsS93.below (zi HI0) hb); replace HK := am (KeepBut.trans (zh HK) (KeepBut.of_below hb g none) (.inl rfl)); replace HB := am (below_step (zb HB) hb); clear hb ho20; obtain ⟨Ao21, co21, eo21⟩ := Kd.R_slice HO512.out; subst eo21) | ((with_reducible refine gate_callee (f := 52) rfl ?_); refine gl Try.func52 26 #[.pointer (some ⟨g, 0, none⟩), .slice Ao21 y510.length co21] rfl rfl rfl ?_; (with_reducible refine (spec_l6Rd_of.calls kj2 g s0_0 x1001_2 _ _ y510 t513 t514 w0 _ ?side1 ?side2 ?side3 ?side4 ?side5 A18.out).mono ?_); (case side1 => exact zi HI0); (case side2 => exact zb HB); (case side3 => exact zc (Kd.R_reads' HO512.out).2.2); (case side4 => exact (Kd.R_reads' HO512.out).2.1); (case side5 => exact far_slice (IsS93.own_ne HI0.out HO512.out (by decide))); rintro e w22 ⟨rfl, hi, hb, hk⟩; refine ⟨_, rfl, ?_⟩; replace BK504 := am (KeepBut.blk hk (zk BK504) NB504_0.out (by simp)); replace HO512 := am (Kd.R_mono (Kd.R_keep (IsS93.apart (zi HI0) (zr HO512) (by decide)) hk (fun _ h => h.2)) (fun _ h => h.1)); replace HK := am (KeepBut.trans (zh HK) hk (.inl rfl)); replace HB := am (hb); replace HI0 := am (hi); (try clear hb); (try clear hb2); (try clear hk); (try clear hi)))
    go_ret
    exact ⟨zv, (zi HI0), (zb HB), (zh HK)⟩
  subst c12
  have H1 : ((spec_l6Rd_pick.f kj2 s0_0 x1001_2 (l1_1.length : Int)).bind fun bt507 => (if 0 ≤ bt507.1 then (if bt507.1 < (l1_1.length : Int) then (some ((rd_T38 l1_1 bt507.1).f0, bt507.2)) else (none)) else (none))) = some (r1, r2) := by rw [if_pos rfl] at H; exact H
  clear H
  have H := H1
  clear H1
  replace H := obs H
  obtain ⟨⟨t507, t508⟩, A130, H⟩ := H
  replace H : (if 0 ≤ t507 then (if t507 < (l1_1.length : Int) then (some ((rd_T38 l1_1 t507).f0, t508)) else (none)) else (none)) = some (r1, r2) := H
  have A13 := am A130
  clear A130
  by_cases c14 : 0 ≤ t507
  rotate_left
  · rw [if_neg c14] at H
    exact absurd H (by simp)
  rw [if_pos c14] at H
  have c14b0 : decide (0 ≤ t507) = true := decide_eq_true c14
  clear c14
  by_cases c15 : t507 < (l1_1.length : Int)
  rotate_left
  · rw [if_neg c15] at H
    exact absurd H (by simp)
  rw [if_pos c15] at H
  have c15b0 : decide (t507 < (l1_1.length : Int)) = true := decide_eq_true c15
  clear c15
  simp only [Option.some.injEq, Prod.mk.injEq] at H
  obtain ⟨rfl, rfl⟩ := H
  try go_wp2
  replace BK504 := am (blk_drew BK504.out)
  replace HI0 := am (IsS93.drew HI0.out)
  replace HK := am (keep_drew HK.out)
  replace HB := am (below_drew1 HB.out)
  have p509 : 0 ≤ (t507 : Int) := of_decide_eq_true zl
  have q509 : t507 < (l1_1.length : Int) := of_decide_eq_true zl
  obtain ⟨ad509, A509_1, c509_1, e509, hx509_0, hx509_1, hl509_1, hi509_1⟩ := at_T38 (Kd.C_foot_now HR1_1.out HK.out) t507 p509 q509
  have hw509_1 := hx509_1
  have hw509_0 := hx509_0
  cases e509
  have hne509_1 := (show (⟨(ad509.add ((t507).toNat * 2)).block, (ad509.add ((t507).toNat * 2)).off + 1, none⟩ : Addr).block ≠ g from by first | (rw [add_block]; exact Kd.foot_ne HR1_1.out (by omega) (by decide)) | (show (Addr.add _ _).block ≠ _; rw [add_block]; exact Kd.foot_ne HR1_1.out (by omega) (by decide)) | exact Kd.foot_ne HR1_1.out (by omega) (by decide) | (dsimp only; exact Kd.foot_ne HR1_1.out (by omega) (by decide)))
  have hlt509_1 := (Kd.foot_lt HR1_1.out (by omega) (by decide))
  have hne509_0 := (show ((ad509.add ((t507).toNat * 2)) : Addr).block ≠ g from by first | (rw [add_block]; exact Kd.foot_ne HR1_1.out (by omega) (by decide)) | (show (Addr.add _ _).block ≠ _; rw [add_block]; exact Kd.foot_ne HR1_1.out (by omega) (by decide)) | exact Kd.foot_ne HR1_1.out (by omega) (by decide) | (dsimp only; exact Kd.foot_ne HR1_1.out (by omega) (by decide)))
  have hlt509_0 := (Kd.foot_lt HR1_1.out (by omega) (by decide))
  have HR509_1 := am hi509_1
  have HC509_1 := am hl509_1
  clear hi509_1 hl509_1
  replace p509 := eq_true p509
  replace q509 := eq_true q509
  refine start_ (n := 11) (S := fun w' => w'.cell? ⟨gb504, 0, none⟩ = some (.slice A1_0 l1_0.length c1_0) ∧ w'.cell? ⟨gb504, 1, none⟩ = some (.slice (some ad509) l1_1.length c1_1) ∧ w'.cell? (ad509.add ((t507).toNat * 2)) = some (.string ((rd_T38 l1_1 t507).f0)) ∧ w'.cell? ⟨(ad509.add ((t507).toNat * 2)).block, (ad509.add ((t507).toNat * 2)).off + 1, none⟩ = some (.slice A509_1 ((rd_T38 l1_1 t507).f1).length c509_1)) (ds := []) (bs 11 0) (by kernel_rfl) rfl rfl ⟨ce0 BK504, ce1 BK504, hx509_0, hx509_1⟩ (fun hHeld => ?_); refine with_tabW spec_l71Name.tab2 spec_l71Name.bits2 (fun HT_ HW_ => ?_)
  generalize wc.drew = w16 at BK504 HI0 HK HB HR509_1 hx509_0 hx509_1 hHeld ⊢
  refine pu 0 14 11 1 rfl rfl ?_
  refine pu 2 16 11 5 rfl rfl ?_
  refine pu 3 17 11 13 rfl rfl ?_
  refine ta4 1 15 11 15 rfl rfl hHeld ?_
  refine ta4 4 18 11 31 rfl rfl hHeld ?_
  refine pu 5 19 11 63 rfl rfl ?_
  refine oz 6 11 127 rfl rfl (fun K hK => ?_)
  refine gs Try.func51 #[.pointer (some ⟨g, 0, none⟩), .int .i64 (l1_1.length : Int)] rfl rfl ?_
  with_reducible refine (spec_l6Rd_pick.calls kj2 g s0_0 x1001_2 (l1_1.length : Int) t507 t508 w0 _ ?side1 ?side2 A13.out).mono ?_
  (case side1 => exact zi HI0)
  (case side2 => exact zb HB)
  rintro e w17 ⟨rfl, hi, hb, hk⟩
  have HS2_ := keep_cell hk (hHeld.2.2.1) (by first | (rw [add_block]; exact hne509_0) | (show (Addr.add _ _).block ≠ _; rw [add_block]; exact hne509_0) | exact hne509_0)
  have HS3_ := keep_cell hk (hHeld.2.2.2) (by first | (rw [add_block]; exact hne509_1) | (show (Addr.add _ _).block ≠ _; rw [add_block]; exact hne509_1) | exact hne509_1)
  refine ⟨_, rfl, ?_⟩
  replace BK504 := am (KeepBut.blk hk (zk BK504) NB504_0.out (by simp))
  replace HK := am (KeepBut.trans (zh HK) hk (.inl rfl))
  replace HB := am (hb)
  replace HI0 := am (hi)
  (try clear hb)
  (try clear hb2)
  (try clear hk)
  (try clear hi)
  refine hK.out _ _ ⟨ce0 BK504, ce1 BK504, HS2_, HS3_⟩ (fun hHeld => ?_)
  clear hK K
  refine norm_ (a' := ?_) ?_ ?_
  rotate_left
  · show Act.put _ (some 20) _ = _
    simp only [Act.put, List.setIfInBounds_toArray, List.set_cons_zero, List.set_cons_succ, i64_w, i32_w]
    rfl
  refine pu 7 21 11 255 rfl rfl ?_
  refine pu 8 22 11 511 rfl rfl ?_
  refine ta4 9 23 11 1023 rfl rfl hHeld ?_
  refine pu 10 4 11 2047 rfl rfl ?_
  refine done_ (done_of HT_.out (by kernel_rfl)) ?_
  try go_wp2
  go_ret
  exact ⟨zv, (zi HI0), (zb HB), (zh HK)⟩
/-! ### spec_DrawPoolRead: function 37 -/
mutual
def spec_DrawPoolRead.l0 : Nat → ByteArray → Int → List Int → Int → List (S55) → List (S38) → Option ((List (S55)) × (List (S38)) × ByteArray × Int)
 | 0, _, _, _, _, _, _ => none
 | k + 1, x7, x8, x519000, x519001, x527000, x527001 => if x8 < 8 then ((spec_l6Rd_pick.f k x519000 x519001 6).bind fun bt529 => (spec_DrawPoolRead.j1 k x7 x8 (decide (bt529.1 > 0)) x519000 bt529.2 x527000 x527001)) else (spec_DrawPoolRead.j1 k x7 x8 false x519000 x519001 x527000 x527001)
def spec_DrawPoolRead.j1 : Nat → ByteArray → Int → Bool → List Int → Int → List (S55) → List (S38) → Option ((List (S55)) × (List (S38)) × ByteArray × Int)
 | 0, _, _, _, _, _, _, _ => none
 | k + 1, x7, x8, x25, x519000, x519001, x527000, x527001 => if x25 = true then ((spec_l6Rd_pick.f k x519000 x519001 3).bind fun bt533 => ((spec_PoolRead.f k x527000 x527001 x7 bt533.1).bind fun bt535 => (if bt535.1.toList = ([] : List UInt8) then ((spec_l71Name.f k x519000 bt533.2 x527000 x527001).bind fun bt537 => (spec_DrawPoolRead.l0 k bt537.1 (wrap64 (x8 + 1)) x519000 bt537.2 x527000 x527001)) else (some (x527000, x527001, x7, bt533.1))))) else ((spec_l6Rd_pick.f k x519000 x519001 7).bind fun bt531 => (some (x527000, x527001, x7, bt531.1)))
end
def spec_DrawPoolRead.f (k : Nat) (l0 : List Int) : Option ((List (S55)) × (List (S38)) × ByteArray × Int) := (spec_l6Open.f l0).bind fun bt516 => ((spec_l71Pool.f k bt516.1 bt516.2).bind fun bt519 => ((spec_l71Name.f k bt516.1 bt519.2.2 bt519.1 bt519.2.1).bind fun bt527 => (spec_DrawPoolRead.l0 k bt527.1 0 bt516.1 bt527.2 bt519.1 bt519.2.1)))
theorem spec_DrawPoolRead.mono_l : ∀ k, (∀ y0 y1 y2 y3 y4 y5, LeO (spec_DrawPoolRead.l0 k y0 y1 y2 y3 y4 y5) (spec_DrawPoolRead.l0 (k + 1) y0 y1 y2 y3 y4 y5)) ∧ (∀ y0 y1 y2 y3 y4 y5 y6, LeO (spec_DrawPoolRead.j1 k y0 y1 y2 y3 y4 y5 y6) (spec_DrawPoolRead.j1 (k + 1) y0 y1 y2 y3 y4 y5 y6))
 | 0 => ⟨fun _ _ _ _ _ _ r h => by simp [spec_DrawPoolRead.l0] at h, fun _ _ _ _ _ _ _ r h => by simp [spec_DrawPoolRead.j1] at h⟩
 | k + 1 => by
  obtain ⟨ih0, ih1⟩ := spec_DrawPoolRead.mono_l k
  refine ⟨?_, ?_⟩
  · intro y0 y1 y2 y3 y4 y5
    unfold spec_DrawPoolRead.l0
    repeat' first
    | (with_reducible exact ih0 _ _ _ _ _ _)
    | (with_reducible exact ih1 _ _ _ _ _ _ _)
    | (with_reducible exact spec_PoolRead.mono _ _ _ _ _)
    | (with_reducible exact spec_l6Rd_pick.mono _ _ _ _)
    | (with_reducible exact spec_l71Name.mono _ _ _ _ _)
    | (with_reducible exact spec_l71Pool.mono _ _ _)
    | (with_reducible exact LeO.refl _)
    | (with_reducible exact LeO.none _)
    | (with_reducible refine LeO.ite ?_ ?_)
    | (with_reducible refine LeO.bind ?_ (fun _ => ?_))
    | exact ih0 _ _ _ _ _ _
    | exact ih1 _ _ _ _ _ _ _
    | exact spec_PoolRead.mono _ _ _ _ _
    | exact spec_l6Rd_pick.mono _ _ _ _
    | exact spec_l71Name.mono _ _ _ _ _
    | exact spec_l71Pool.mono _ _ _
    | exact LeO.none _
    | refine LeO.ite ?_ ?_
    | refine LeO.bind ?_ (fun _ => ?_)
  intro y0 y1 y2 y3 y4 y5 y6
  unfold spec_DrawPoolRead.j1
  repeat' first
  | (with_reducible exact ih0 _ _ _ _ _ _)
  | (with_reducible exact ih1 _ _ _ _ _ _ _)
  | (with_reducible exact spec_PoolRead.mono _ _ _ _ _)
  | (with_reducible exact spec_l6Rd_pick.mono _ _ _ _)
  | (with_reducible exact spec_l71Name.mono _ _ _ _ _)
  | (with_reducible exact spec_l71Pool.mono _ _ _)
  | (with_reducible exact LeO.refl _)
  | (with_reducible exact LeO.none _)
  | (with_reducible refine LeO.ite ?_ ?_)
  | (with_reducible refine LeO.bind ?_ (fun _ => ?_))
  | exact ih0 _ _ _ _ _ _
  | exact ih1 _ _ _ _ _ _ _
  | exact spec_PoolRead.mono _ _ _ _ _
  | exact spec_l6Rd_pick.mono _ _ _ _
  | exact spec_l71Name.mono _ _ _ _ _
  | exact spec_l71Pool.mono _ _ _
  | exact LeO.none _
  | refine LeO.ite ?_ ?_
  | refine LeO.bind ?_ (fun _ => ?_)
theorem spec_DrawPoolRead.mono : ∀ a0 k, LeO (spec_DrawPoolRead.f k a0) (spec_DrawPoolRead.f (k + 1) a0) := by
 intro a0 k
 obtain ⟨ih0, ih1⟩ := spec_DrawPoolRead.mono_l k
 unfold spec_DrawPoolRead.f
 repeat' first
  | (with_reducible exact ih0 _ _ _ _ _ _)
  | (with_reducible exact ih1 _ _ _ _ _ _ _)
  | (with_reducible exact spec_PoolRead.mono _ _ _ _ _)
  | (with_reducible exact spec_l6Rd_pick.mono _ _ _ _)
  | (with_reducible exact spec_l71Name.mono _ _ _ _ _)
  | (with_reducible exact spec_l71Pool.mono _ _ _)
  | (with_reducible exact LeO.refl _)
  | (with_reducible exact LeO.none _)
  | (with_reducible refine LeO.ite ?_ ?_)
  | (with_reducible refine LeO.bind ?_ (fun _ => ?_))
  | exact ih0 _ _ _ _ _ _
  | exact ih1 _ _ _ _ _ _ _
  | exact spec_PoolRead.mono _ _ _ _ _
  | exact spec_l6Rd_pick.mono _ _ _ _
  | exact spec_l71Name.mono _ _ _ _ _
  | exact spec_l71Pool.mono _ _ _
  | exact LeO.none _
  | refine LeO.ite ?_ ?_
  | refine LeO.bind ?_ (fun _ => ?_)
set_option maxHeartbeats 8000000 in
set_option maxRecDepth 100000 in
theorem spec_DrawPoolRead.calls (k : Nat) (A0 : Option Addr) (c0 : Nat) (l0 : List Int) (r1 : List (S55)) (r2 : List (S38)) (r3 : ByteArray) (r4 : Int) (w : World) (hr0 : Kd.C (Kd.int .u8) w A0 l0.length l0) (hc0 : l0.length ≤ c0) (h : spec_DrawPoolRead.f k l0 = some (r1, r2, r3, r4)) :
 Calls Try.prog 37 #[.slice A0 l0.length c0] w fun e w' => ∃ v0_ v1_ : Value, e = .returned (.tuple #[.agg #[v0_, v1_], .string r3, .int .i64 r4]) ∧ Kd.R k55 55 w' w.heap.size (fun _ => True) v0_ r1 ∧ Kd.S k38 38 w' w.heap.size (fun _ => True) v1_ r2 ∧ Below w.heap.size w w' := by
 have hu31 := Try.underlying31
 have HR0 := am hr0
 have HC0 := am hc0
 clear hr0 hc0
 have HB := am (Below.refl w.heap.size w)
 have H : ((spec_l6Open.f l0).bind fun bt516 => ((spec_l71Pool.f k bt516.1 bt516.2).bind fun bt519 => ((spec_l71Name.f k bt516.1 bt519.2.2 bt519.1 bt519.2.1).bind fun bt527 => (spec_DrawPoolRead.l0 k bt527.1 0 bt516.1 bt527.2 bt519.1 bt519.2.1)))) = some (r1, r2, r3, r4) := h
 clear h
 replace H := obs H
 obtain ⟨⟨t516, t517⟩, A20, H⟩ := H
 replace H : ((spec_l71Pool.f k t516 t517).bind fun bt519 => ((spec_l71Name.f k t516 bt519.2.2 bt519.1 bt519.2.1).bind fun bt527 => (spec_DrawPoolRead.l0 k bt527.1 0 t516 bt527.2 bt519.1 bt519.2.1))) = some (r1, r2, r3, r4) := H
 have A2 := am A20
 clear A20
 replace H := obs H
 obtain ⟨⟨t519, t522, t525⟩, A30, H⟩ := H
 replace H : ((spec_l71Name.f k t516 t525 t519 t522).bind fun bt527 => (spec_DrawPoolRead.l0 k bt527.1 0 t516 bt527.2 t519 t522)) = some (r1, r2, r3, r4) := H
 have A3 := am A30
 clear A30
 replace H := obs H
 obtain ⟨⟨t527, t528⟩, A40, H⟩ := H
 replace H : (spec_DrawPoolRead.l0 k t527 0 t516 t528 t519 t522) = some (r1, r2, r3, r4) := H
 have A4 := am A40
 clear A40
 have H' := am H
 clear H
 go_enter Try.func37, Try.ntmps37
 go_wp2_with (first | ((with_reducible refine gate_dst (N := 2) rfl ?_); refine bx 31 #[.slice none 0 0, .slice none 0 0] ?_; intro gb515 hg w5 hbox hb; have BK515 := am (hbox); have GW515 := am (zn hg (zb HB)); have GE515 := am (zn hg (zb HB)); replace HB := am (below_step (zb HB) hb); clear hb hbox hg) | ((with_reducible refine gate_callee (f := 49) rfl ?_); refine gl Try.func49 13 #[.slice A0 l0.length c0] rfl rfl rfl ?_; (with_reducible refine (spec_l6Open.calls _ _ l0 t516 t517 w _ ?side1 ?side2 ?side3 A2.out).mono ?_); (case side1 => exact zb HB); (case side2 => exact HR0.out); (case side3 => exact HC0.out); rintro e w6 ⟨g518, rfl, hi, hb, hb2⟩; refine ⟨_, rfl, ?_⟩; replace HB := am (hb); have HI518 := am (hi); have NB518_515 := am (IsS93.ne_blk hi (blk_below (zk BK515) hb2) (by decide)); have NB515_518 := am (Ne.symm (IsS93.ne_blk hi (blk_below (zk BK515) hb2) (by decide))); replace BK515 := am (blk_below (zk BK515) hb2); (try clear hb); (try clear hb2); (try clear hk); (try clear hi)) | ((with_reducible refine gate_callee (f := 50) rfl ?_); refine gl Try.func50 15 #[.pointer (some ⟨g518, 0, none⟩)] rfl rfl rfl ?_; (with_reducible refine (spec_l71Pool.calls k g518 t516 t517 t519 t522 t525 w _ ?side1 ?side2 A3.out).mono ?_); (case side1 => exact zi HI518); (case side2 => exact zb HB); rintro e w7 ⟨v520, v523, rfl, ho0, ho1, hi, hb, hk⟩; refine ⟨_, rfl, ?_⟩; replace BK515 := am (KeepBut.blk hk (zk BK515) NB515_518.out (by simp)); have HO521 := am (Kd.R_lower ho0 (below_size (zb HB))); have HO524 := am (Kd.S_lower ho1 (below_size (zb HB))); replace HB := am (hb); replace HI518 := am (hi); (try clear hb); (try clear hb2); (try clear hk); (try clear hi); (try clear ho0); (try clear ho1)) | ((with_reducible refine gate_dst (N := 6) rfl ?_); refine bx 31 #[.slice none 0 0, .slice none 0 0] ?_; intro gb526 hg w8 hbox hb; replace HO521 := am (Kd.R_below (zr HO521) hb); replace HO524 := am (Kd.S_below (zs HO524) hb); have BK526 := am (hbox); have GW526 := am (zn hg (zb HB)); have GE526 := am (zn hg (zb HB)); replace HB := am (below_step (zb HB) hb); have NB515_526 := am (zx hg (zk BK515)); have NB526_515 := am (zy hg (zk BK515)); replace BK515 := am (blk_below (zk BK515) hb); have NB518_526 := am (ix hg (zi HI518)); have NB526_518 := am (iy hg (zi HI518)); replace HI518 := am (IsS93.below (zi HI518) hb); clear hb hbox hg; obtain ⟨Ao9, co9, eo9⟩ := Kd.R_slice HO521.out; subst eo9; have hnb10 := NB526_515.out; have hnc10 := NB515_526.out; have hnb11 := NB526_518.out; have hnc11 := NB518_526.out; have hcz12_0 := ce0 BK526; have hcz12_1 := ce1 BK526; have hfz12_0 := bfz BK526 0; have hfz12_1 := bfz BK526 1; obtain ⟨Ao13, co13, eo13⟩ := Kd.S_slice HO524.out; subst eo13) | ((with_reducible refine gate_callee (f := 62) rfl ?_); refine gl Try.func62 18 #[.pointer (some ⟨g518, 0, none⟩), .agg #[.slice Ao9 t519.length co9, .slice Ao13 t522.length co13]] rfl rfl rfl ?_; (with_reducible refine (spec_l71Name.calls k g518 t516 t525 _ _ t519 _ _ t522 t527 t528 w _ ?side1 ?side2 ?side3 ?side4 ?side5 ?side6 A4.out).mono ?_); (case side1 => exact zi HI518); (case side2 => exact zb HB); (case side3 => exact Kd.C_foot_own (IsS93.apart (zi HI518) (rf HO521 BK526) (by decide)) (fun _ h_ => h_.2)); (case side4 => exact (Kd.R_reads' HO521.out).2.1); (case side5 => exact Kd.C_foot_own ((Kd.S_R (IsS93.apartS (zi HI518) (sf HO524 BK526) (by decide)))) (fun _ h_ => h_.2)); (case side6 => exact (Kd.S_reads' HO524.out).2.1); rintro e w14 ⟨rfl, hi, hb, hk⟩; refine ⟨_, rfl, ?_⟩; replace BK515 := am (KeepBut.blk hk (zk BK515) NB515_518.out (by simp)); replace HO521 := am (Kd.R_mono (Kd.R_keep (IsS93.apart (zi HI518) (rf HO521 BK526) (by decide)) hk (fun _ h => h.2)) (fun _ h => h.1)); replace HO524 := am (Kd.S_mono (Kd.S_keep (IsS93.apartS (zi HI518) (sf HO524 BK526) (by decide)) hk (fun _ h => h.2)) (fun _ h => h.1)); replace BK526 := am (KeepBut.blk hk (g' := gb526) (o := .cells #[.slice Ao9 t519.length co9, .slice Ao13 t522.length co13] 31 (0, 0)) (zp BK526) NB526_518.out (by simp)); replace HB := am (hb); replace HI518 := am (hi); (try clear hb); (try clear hb2); (try clear hk); (try clear hi)))
 go_loopg [7, 8] k (fun kq v7 v8 w' => ∃ (x7_1 : ByteArray) (x8_1 : Int) (x519001_1 : Int), v7 = .string x7_1 ∧ v8 = .int .i64 x8_1 ∧ Aside0 (spec_DrawPoolRead.l0 kq x7_1 x8_1 t516 x519001_1 t519 t522 = some (r1, r2, r3, r4)) ∧ Aside0 (kq ≤ k) ∧ Aside0 (Kd.R k55 55 w' w.heap.size (fun _ => True) (.slice Ao9 t519.length co9) t519) ∧ Aside0 (Kd.S k38 38 w' w.heap.size (fun _ => True) (.slice Ao13 t522.length co13) t522) ∧ Aside0 (w'.heap[gb515]? = some (.cells #[(.slice none 0 0), (.slice none 0 0)] 31 (0, 0))) ∧ Aside0 (w'.heap[gb526]? = some (.cells #[(.slice Ao9 t519.length co9), (.slice Ao13 t522.length co13)] 31 (0, 0))) ∧ Aside0 (IsS93 w w' g518 t516 x519001_1) ∧ Aside0 (Below w.heap.size w w'))
 case atStart => exact ⟨(t527), (0), (t528), ze, ze, H', ⟨Nat.le_refl _⟩, ⟨zr HO521⟩, ⟨zs HO524⟩, ⟨zk BK515⟩, ⟨zk BK526⟩, ⟨zi HI518⟩, ⟨zb HB⟩⟩
 case round =>
  clear H'
  try clear c1
  try clear p2
  try clear c3
  try clear c4
  try clear c5
  try clear c6
  try clear c10
  try clear c11
  try clear hcz12_0
  try clear hcz12_1
  try clear hfz12_0
  try clear hfz12_1
  obtain ⟨x7_1, x8_1, x519001_1, rfl, rfl, HA, HK1, HO_527000, HO_527001, BK515, BK526, HI518, HB⟩ := hrel
  cases gk with
  | zero => exact absurd HA.out (by simp [spec_DrawPoolRead.l0])
  | succ k1 =>
   have H := HA.out
   clear HA
   simp only [spec_DrawPoolRead.l0] at H
   have HC15 := am H
   clear H
   go_upto_region 5 with (fail)
   go_cut [25] (fun v25 wc => ∃ (kq : Nat) (x25_14 : Bool) (x519001_14 : Int), v25 = .bool x25_14 ∧ Aside0 (spec_DrawPoolRead.j1 kq x7_1 x8_1 x25_14 t516 x519001_14 t519 t522 = some (r1, r2, r3, r4)) ∧ Aside0 (kq ≤ k1) ∧ Aside0 (Kd.R k55 55 wc w.heap.size (fun _ => True) (.slice Ao9 t519.length co9) t519) ∧ Aside0 (Kd.S k38 38 wc w.heap.size (fun _ => True) (.slice Ao13 t522.length co13) t522) ∧ Aside0 (wc.heap[gb515]? = some (.cells #[(.slice none 0 0), (.slice none 0 0)] 31 (0, 0))) ∧ Aside0 (wc.heap[gb526]? = some (.cells #[(.slice Ao9 t519.length co9), (.slice Ao13 t522.length co13)] 31 (0, 0))) ∧ Aside0 (IsS93 w wc g518 t516 x519001_14) ∧ Aside0 (Below w.heap.size w wc))
   case first =>
    have H := HC15.out
    clear HC15
    by_cases c16 : x8_1 < 8
    rotate_left
    · rw [if_neg c16] at H
      have c16b0 : decide (x8_1 < 8) = false := decide_eq_false c16
      clear c16
      (first | rw [c16b0] | (simp only [i64_w, i32_w]; rw [c16b0]) | skip)
      have H' := am H
      clear H
      go_wp2
      go_meet
      case rel => exact ⟨_, (false), (x519001_1), ze, H', ⟨by have := HK1.out; first | omega | exact Nat.le_refl _⟩, ⟨zr HO_527000⟩, ⟨zs HO_527001⟩, ⟨zk BK515⟩, ⟨zk BK526⟩, ⟨zi HI518⟩, ⟨zb HB⟩⟩
    rw [if_pos c16] at H
    have c16b0 : decide (x8_1 < 8) = true := decide_eq_true c16
    clear c16
    (first | rw [c16b0] | (simp only [i64_w, i32_w]; rw [c16b0]) | skip)
    replace H := obs H
    obtain ⟨⟨t529, t530⟩, A170, H⟩ := H
    replace H : (spec_DrawPoolRead.j1 k1 x7_1 x8_1 (decide (t529 > 0)) t516 t530 t519 t522) = some (r1, r2, r3, r4) := H
    have A17 := am A170
    clear A170
    have H' := am H
    clear H
    go_wp2_with (first | (go_at_call 51; (with_reducible refine (spec_l6Rd_pick.calls k1 g518 t516 x519001_1 6 t529 t530 w _ ?side1 ?side2 A17.out).mono ?_); (case side1 => exact zi HI518); (case side2 => exact zb HB); rintro e w18 ⟨rfl, hi, hb, hk⟩; replace HO_527000 := am (Kd.R_mono (Kd.R_keep (IsS93.apart (zi HI518) (zr HO_527000) (by decide)) hk (fun _ h => h.2)) (fun _ h => h.1)); replace HO_527001 := am (Kd.S_mono (Kd.S_keep (IsS93.apartS (zi HI518) (zs HO_527001) (by decide)) hk (fun _ h => h.2)) (fun _ h => h.1)); replace BK515 := am (KeepBut.blk hk (zk BK515) NB515_518.out (by simp)); replace BK526 := am (KeepBut.blk hk (zk BK526) NB526_518.out (by simp)); replace HB := am (hb); replace HI518 := am (hi); (try clear hb); (try clear hb2); (try clear hk); (try clear hi)))
    go_meet
    case rel => exact ⟨_, (decide (t529 > 0)), (t530), ze, H', ⟨by have := HK1.out; first | omega | exact Nat.le_refl _⟩, ⟨zr HO_527000⟩, ⟨zs HO_527001⟩, ⟨zk BK515⟩, ⟨zk BK526⟩, ⟨zi HI518⟩, ⟨zb HB⟩⟩
   clear HC15
   try clear c1
   try clear p2
   try clear c3
   try clear c4
   try clear c5
   try clear c6
   try clear c10
   try clear c11
   try clear c16
   try clear c16b0
   try clear hcz12_0
   try clear hcz12_1
   try clear hfz12_0
   try clear hfz12_1
   try clear p2
   obtain ⟨kq, x25_14, x519001_14, rfl, HA, HJ14, HO_527000, HO_527001, BK515, BK526, HI518, HB⟩ := hcut
   cases kq with
   | zero => exact absurd HA.out (by simp [spec_DrawPoolRead.j1])
   | succ kj14 =>
    have H := HA.out
    clear HA
    simp only [spec_DrawPoolRead.j1] at H
    by_cases c19 : x25_14 = true
    · subst c19
      have H1 : ((spec_l6Rd_pick.f kj14 t516 x519001_14 3).bind fun bt533 => ((spec_PoolRead.f kj14 t519 t522 x7_1 bt533.1).bind fun bt535 => (if bt535.1.toList = ([] : List UInt8) then ((spec_l71Name.f kj14 t516 bt533.2 t519 t522).bind fun bt537 => (spec_DrawPoolRead.l0 kj14 bt537.1 (wrap64 (x8_1 + 1)) t516 bt537.2 t519 t522)) else (some (t519, t522, x7_1, bt533.1))))) = some (r1, r2, r3, r4) := by rw [if_pos rfl] at H; exact H
      clear H
      have H := H1
      clear H1
      replace H := obs H
      obtain ⟨⟨t533, t534⟩, A200, H⟩ := H
      replace H : ((spec_PoolRead.f kj14 t519 t522 x7_1 t533).bind fun bt535 => (if bt535.1.toList = ([] : List UInt8) then ((spec_l71Name.f kj14 t516 t534 t519 t522).bind fun bt537 => (spec_DrawPoolRead.l0 kj14 bt537.1 (wrap64 (x8_1 + 1)) t516 bt537.2 t519 t522)) else (some (t519, t522, x7_1, t533)))) = some (r1, r2, r3, r4) := H
      have A20 := am A200
      clear A200
      replace H := obs H
      obtain ⟨⟨t535, t536⟩, A210, H⟩ := H
      replace H : (if t535.toList = ([] : List UInt8) then ((spec_l71Name.f kj14 t516 t534 t519 t522).bind fun bt537 => (spec_DrawPoolRead.l0 kj14 bt537.1 (wrap64 (x8_1 + 1)) t516 bt537.2 t519 t522)) else (some (t519, t522, x7_1, t533))) = some (r1, r2, r3, r4) := H
      have A21 := am A210
      clear A210
      by_cases c22 : t535.toList = ([] : List UInt8)
      rotate_left
      · rw [if_neg c22] at H
        have c22b0 : (t535.toList == ([] : List UInt8)) = false := beq_eq_false_iff_ne.mpr c22
        have c22b1 : (t535.toList != ([] : List UInt8)) = true := bne_iff_ne.mpr c22
        simp only [Option.some.injEq, Prod.mk.injEq] at H
        obtain ⟨rfl, rfl, rfl, rfl⟩ := H
        go_wp2_with (first | ((with_reducible refine gate_callee (f := 51) rfl ?_); refine gl Try.func51 29 #[.pointer (some ⟨g518, 0, none⟩), .int .i64 3] rfl rfl rfl ?_; (with_reducible refine (spec_l6Rd_pick.calls kj14 g518 t516 x519001_14 3 t533 t534 w _ ?side1 ?side2 A20.out).mono ?_); (case side1 => exact zi HI518); (case side2 => exact zb HB); rintro e w31 ⟨rfl, hi, hb, hk⟩; refine ⟨_, rfl, ?_⟩; replace HO_527000 := am (Kd.R_mono (Kd.R_keep (IsS93.apart (zi HI518) (zr HO_527000) (by decide)) hk (fun _ h => h.2)) (fun _ h => h.1)); replace HO_527001 := am (Kd.S_mono (Kd.S_keep (IsS93.apartS (zi HI518) (zs HO_527001) (by decide)) hk (fun _ h => h.2)) (fun _ h => h.1)); replace BK515 := am (KeepBut.blk hk (zk BK515) NB515_518.out (by simp)); replace BK526 := am (KeepBut.blk hk (zk BK526) NB526_518.out (by simp)); replace HB := am (hb); replace HI518 := am (hi); (try clear hb); (try clear hb2); (try clear hk); (try clear hi); have hnb32 := NB526_515.out; have hnc32 := NB515_526.out; have hnb33 := NB526_518.out; have hnc33 := NB518_526.out; have hcz34_0 := ce0 BK526; have hcz34_1 := ce1 BK526; have hfz34_0 := bfz BK526 0; have hfz34_1 := bfz BK526 1) | ((with_reducible refine gate_callee (f := 22) rfl ?_); refine gl Try.func22 34 #[.agg #[.slice Ao9 t519.length co9, .slice Ao13 t522.length co13], .string x7_1, .int .i64 t533] rfl rfl rfl ?_; (with_reducible refine (spec_PoolRead.calls kj14 _ _ t519 _ _ t522 x7_1 t533 t535 t536 _ ?side1 ?side2 ?side3 ?side4 A21.out).mono ?_); (case side1 => exact zc (Kd.R_reads' HO_527000.out).2.2); (case side2 => exact (Kd.R_reads' HO_527000.out).2.1); (case side3 => exact zc (Kd.S_reads' HO_527001.out).2.2); (case side4 => exact (Kd.S_reads' HO_527001.out).2.1); rintro e w35 ⟨rfl, hb⟩; refine ⟨_, rfl, ?_⟩; replace HO_527000 := am (Kd.R_below (zr HO_527000) hb); replace HO_527001 := am (Kd.S_below (zs HO_527001) hb); replace BK515 := am (blk_below (zk BK515) hb); replace BK526 := am (blk_below (zk BK526) hb); replace HI518 := am (IsS93.below (zi HI518) hb); replace HB := am (below_step (zb HB) hb); (try clear hb); (try clear hb2); (try clear hk); (try clear hi); have hcz36_0 := ce0 BK526; have hcz36_1 := ce1 BK526; have hfz36_0 := bfz BK526 0; have hfz36_1 := bfz BK526 1; have hnb37 := NB515_518.out; have hnc37 := NB518_515.out; have hcz38_0 := ce0 BK515; have hcz38_1 := ce1 BK515; have hfz38_0 := bfz BK515 0; have hfz38_1 := bfz BK515 1))
        refine bodyPost_ret (results_ctt rfl _ _ gb515 31 #[.slice Ao9 t519.length co9, .slice Ao13 t522.length co13] (0, 0) _ rfl (zp BK515) Try.underlying31 rfl (by kernel_rfl)) rfl ?_
        exact ⟨_, _, zw, by (with_reducible repeat (first | apply Kd.R_alloc | apply Kd.R_drewN | apply Kd.R_drew)); exact Kd.R_mono (Kd.R_far (p := ⟨gb515, 1, none⟩) (Kd.R_far (p := ⟨gb515, 0, none⟩) (Kd.R_types HO_527000.out BK515.out (by decide)) (fun _ hk => hk.2) (.slice Ao9 t519.length co9)) (fun _ hk => hk.2) (.slice Ao13 t522.length co13)) (fun _ hk => trivial), by (with_reducible repeat (first | apply Kd.S_alloc | apply Kd.S_drewN | apply Kd.S_drew)); exact Kd.S_mono (Kd.S_far (p := ⟨gb515, 1, none⟩) (Kd.S_far (p := ⟨gb515, 0, none⟩) (Kd.S_types HO_527001.out BK515.out (by decide)) (fun _ hk => hk.2) (.slice Ao9 t519.length co9)) (fun _ hk => hk.2) (.slice Ao13 t522.length co13)) (fun _ hk => trivial), (zb HB)⟩
      rw [if_pos c22] at H
      have c22b0 : (t535.toList == ([] : List UInt8)) = true := beq_iff_eq.mpr c22
      have c22b1 : (t535.toList != ([] : List UInt8)) = false := bne_eq_false_iff_eq.mpr c22
      clear c22
      replace H := obs H
      obtain ⟨⟨t537, t538⟩, A230, H⟩ := H
      replace H : (spec_DrawPoolRead.l0 kj14 t537 (wrap64 (x8_1 + 1)) t516 t538 t519 t522) = some (r1, r2, r3, r4) := H
      have A23 := am A230
      clear A230
      have H' := am H
      clear H
      go_wp2_with (first | ((with_reducible refine gate_callee (f := 51) rfl ?_); refine gl Try.func51 29 #[.pointer (some ⟨g518, 0, none⟩), .int .i64 3] rfl rfl rfl ?_; (with_reducible refine (spec_l6Rd_pick.calls kj14 g518 t516 x519001_14 3 t533 t534 w _ ?side1 ?side2 A20.out).mono ?_); (case side1 => exact zi HI518); (case side2 => exact zb HB); rintro e w24 ⟨rfl, hi, hb, hk⟩; refine ⟨_, rfl, ?_⟩; replace HO_527000 := am (Kd.R_mono (Kd.R_keep (IsS93.apart (zi HI518) (zr HO_527000) (by decide)) hk (fun _ h => h.2)) (fun _ h => h.1)); replace HO_527001 := am (Kd.S_mono (Kd.S_keep (IsS93.apartS (zi HI518) (zs HO_527001) (by decide)) hk (fun _ h => h.2)) (fun _ h => h.1)); replace BK515 := am (KeepBut.blk hk (zk BK515) NB515_518.out (by simp)); replace BK526 := am (KeepBut.blk hk (zk BK526) NB526_518.out (by simp)); replace HB := am (hb); replace HI518 := am (hi); (try clear hb); (try clear hb2); (try clear hk); (try clear hi); have hnb25 := NB526_515.out; have hnc25 := NB515_526.out; have hnb26 := NB526_518.out; have hnc26 := NB518_526.out; have hcz27_0 := ce0 BK526; have hcz27_1 := ce1 BK526; have hfz27_0 := bfz BK526 0; have hfz27_1 := bfz BK526 1) | ((with_reducible refine gate_callee (f := 22) rfl ?_); refine gl Try.func22 34 #[.agg #[.slice Ao9 t519.length co9, .slice Ao13 t522.length co13], .string x7_1, .int .i64 t533] rfl rfl rfl ?_; (with_reducible refine (spec_PoolRead.calls kj14 _ _ t519 _ _ t522 x7_1 t533 t535 t536 _ ?side1 ?side2 ?side3 ?side4 A21.out).mono ?_); (case side1 => exact zc (Kd.R_reads' HO_527000.out).2.2); (case side2 => exact (Kd.R_reads' HO_527000.out).2.1); (case side3 => exact zc (Kd.S_reads' HO_527001.out).2.2); (case side4 => exact (Kd.S_reads' HO_527001.out).2.1); rintro e w28 ⟨rfl, hb⟩; refine ⟨_, rfl, ?_⟩; replace HO_527000 := am (Kd.R_below (zr HO_527000) hb); replace HO_527001 := am (Kd.S_below (zs HO_527001) hb); replace BK515 := am (blk_below (zk BK515) hb); replace BK526 := am (blk_below (zk BK526) hb); replace HI518 := am (IsS93.below (zi HI518) hb); replace HB := am (below_step (zb HB) hb); (try clear hb); (try clear hb2); (try clear hk); (try clear hi); have hcz29_0 := ce0 BK526; have hcz29_1 := ce1 BK526; have hfz29_0 := bfz BK526 0; have hfz29_1 := bfz BK526 1) | ((with_reducible refine gate_callee (f := 62) rfl ?_); refine gl Try.func62 44 #[.pointer (some ⟨g518, 0, none⟩), .agg #[.slice Ao9 t519.length co9, .slice Ao13 t522.length co13]] rfl rfl rfl ?_; (with_reducible refine (spec_l71Name.calls kj14 g518 t516 t534 _ _ t519 _ _ t522 t537 t538 w _ ?side1 ?side2 ?side3 ?side4 ?side5 ?side6 A23.out).mono ?_); (case side1 => exact zi HI518); (case side2 => exact zb HB); (case side3 => exact Kd.C_foot_own (IsS93.apart (zi HI518) (zr HO_527000) (by decide)) (fun _ h_ => h_.2)); (case side4 => exact (Kd.R_reads' HO_527000.out).2.1); (case side5 => exact Kd.C_foot_own ((Kd.S_R (IsS93.apartS (zi HI518) (zs HO_527001) (by decide)))) (fun _ h_ => h_.2)); (case side6 => exact (Kd.S_reads' HO_527001.out).2.1); rintro e w30 ⟨rfl, hi, hb, hk⟩; refine ⟨_, rfl, ?_⟩; replace HO_527000 := am (Kd.R_mono (Kd.R_keep (IsS93.apart (zi HI518) (zr HO_527000) (by decide)) hk (fun _ h => h.2)) (fun _ h => h.1)); replace HO_527001 := am (Kd.S_mono (Kd.S_keep (IsS93.apartS (zi HI518) (zs HO_527001) (by decide)) hk (fun _ h => h.2)) (fun _ h => h.1)); replace BK515 := am (KeepBut.blk hk (zk BK515) NB515_518.out (by simp)); replace BK526 := am (KeepBut.blk hk (zk BK526) NB526_518.out (by simp)); replace HB := am (hb); replace HI518 := am (hi); (try clear hb); (try clear hb2); (try clear hk); (try clear hi)))
      go_roundg kj14
      case measure => have := HK1.out; have := HJ14.out; omega
      case rel => exact ⟨(t537), (wrap64 (x8_1 + 1)), (t538), ze, ze, H', ⟨by have := HK1.out; have := HJ14.out; omega⟩, ⟨zr HO_527000⟩, ⟨zs HO_527001⟩, ⟨zk BK515⟩, ⟨zk BK526⟩, ⟨zi HI518⟩, ⟨zb HB⟩⟩
    replace c19 := Bool.eq_false_iff.mpr c19
    subst c19
    have H1 : ((spec_l6Rd_pick.f kj14 t516 x519001_14 7).bind fun bt531 => (some (t519, t522, x7_1, bt531.1))) = some (r1, r2, r3, r4) := by rw [if_neg (show ¬ (false = true) by decide)] at H; exact H
    clear H
    have H := H1
    clear H1
    replace H := obs H
    obtain ⟨⟨t531, t532⟩, A390, H⟩ := H
    replace H : (some (t519, t522, x7_1, t531)) = some (r1, r2, r3, r4) := H
    have A39 := am A390
    clear A390
    simp only [Option.some.injEq, Prod.mk.injEq] at H
    obtain ⟨rfl, rfl, rfl, rfl⟩ := H
    try go_wp2
    replace HO_527000 := am (Kd.R_drew HO_527000.out)
    replace HO_527001 := am (Kd.S_drew HO_527001.out)
    replace BK515 := am (blk_drew BK515.out)
    replace BK526 := am (blk_drew BK526.out)
    replace HI518 := am (IsS93.drew HI518.out)
    replace HB := am (below_drew1 HB.out)
    refine start_ (n := 7) (S := fun w' => w'.cell? ⟨gb526, 0, none⟩ = some (.slice Ao9 t519.length co9) ∧ w'.cell? ⟨gb526, 1, none⟩ = some (.slice Ao13 t522.length co13)) (ds := []) (bs 7 0) (by kernel_rfl) rfl rfl ⟨ce0 BK526, ce1 BK526⟩ (fun hHeld => ?_)
    generalize wc.drew = w40 at HO_527000 HO_527001 BK515 BK526 HI518 HB hHeld ⊢
    refine pu 1 46 7 2 rfl rfl ?_
    refine pu 2 47 7 6 rfl rfl ?_
    refine ta2 0 45 7 7 rfl rfl hHeld ?_
    refine oz 3 7 15 rfl rfl (fun K hK => ?_)
    refine gs Try.func51 #[.pointer (some ⟨g518, 0, none⟩), .int .i64 7] rfl rfl ?_
    with_reducible refine (spec_l6Rd_pick.calls kj14 g518 t516 x519001_14 7 t531 t532 w _ ?side1 ?side2 A39.out).mono ?_
    (case side1 => exact zi HI518)
    (case side2 => exact zb HB)
    rintro e w41 ⟨rfl, hi, hb, hk⟩
    refine ⟨_, rfl, ?_⟩
    replace HO_527000 := am (Kd.R_mono (Kd.R_keep (IsS93.apart (zi HI518) (zr HO_527000) (by decide)) hk (fun _ h => h.2)) (fun _ h => h.1))
    replace HO_527001 := am (Kd.S_mono (Kd.S_keep (IsS93.apartS (zi HI518) (zs HO_527001) (by decide)) hk (fun _ h => h.2)) (fun _ h => h.1))
    replace BK515 := am (KeepBut.blk hk (zk BK515) NB515_518.out (by simp))
    replace BK526 := am (KeepBut.blk hk (zk BK526) NB526_518.out (by simp))
    replace HB := am (hb)
    replace HI518 := am (hi)
    (try clear hb)
    (try clear hb2)
    (try clear hk)
    (try clear hi)
    refine hK.out _ _ ⟨ce0 BK526, ce1 BK526⟩ (fun hHeld => ?_)
    clear hK K
    refine norm_ (a' := ?_) ?_ ?_
    rotate_left
    · show Act.put _ (some 48) _ = _
      simp only [Act.put, List.setIfInBounds_toArray, List.set_cons_zero, List.set_cons_succ, i64_w, i32_w]
      rfl
    refine oz 4 7 31 rfl rfl (fun K hK => ?_)
    have hs42 := ce0 BK515
    have hfs42 := bfz BK515 0
    have hns42_1 := NB526_515.out
    have hms42_1 := NB515_526.out
    have hs43 := ce1 BK515
    have hfs43 := bfz BK515 1
    have hns43_1 := NB526_515.out
    have hms43_1 := NB515_526.out
    refine skip_ (w1 := ?_) (by rfl) rfl ?_ ?_
    rotate_left
    · go_simp
      rfl
    refine hK.out _ _ ⟨((cell_far (p := ⟨gb515, _, none⟩) NB526_515.out _).trans (((cell_far (p := ⟨gb515, _, none⟩) NB526_515.out _).trans (hHeld.1)))), ((cell_far (p := ⟨gb515, _, none⟩) NB526_515.out _).trans (((cell_far (p := ⟨gb515, _, none⟩) NB526_515.out _).trans (hHeld.2))))⟩ (fun hHeld => ?_)
    clear hK K
    refine pu 5 3 7 63 rfl rfl ?_
    refine pu 6 4 7 127 rfl rfl ?_
    refine done_ (by kernel_rfl) ?_
    try go_wp2
    refine bodyPost_ret (results_ctt rfl _ _ gb515 31 #[.slice Ao9 t519.length co9, .slice Ao13 t522.length co13] (0, 0) _ rfl (zp BK515) Try.underlying31 rfl (by kernel_rfl)) rfl ?_
    exact ⟨_, _, zw, by (with_reducible repeat (first | apply Kd.R_alloc | apply Kd.R_drewN | apply Kd.R_drew)); exact Kd.R_mono (Kd.R_far (p := ⟨gb515, 1, none⟩) (Kd.R_far (p := ⟨gb515, 0, none⟩) (Kd.R_types HO_527000.out BK515.out (by decide)) (fun _ hk => hk.2) (.slice Ao9 t519.length co9)) (fun _ hk => hk.2) (.slice Ao13 t522.length co13)) (fun _ hk => trivial), by (with_reducible repeat (first | apply Kd.S_alloc | apply Kd.S_drewN | apply Kd.S_drew)); exact Kd.S_mono (Kd.S_far (p := ⟨gb515, 1, none⟩) (Kd.S_far (p := ⟨gb515, 0, none⟩) (Kd.S_types HO_527001.out BK515.out (by decide)) (fun _ hk => hk.2) (.slice Ao9 t519.length co9)) (fun _ hk => hk.2) (.slice Ao13 t522.length co13)) (fun _ hk => trivial), (zb HB)⟩
/-! ### laws_lgBlocks: function 38 -/
def laws_lgBlocks.l0 : Nat → ByteArray → Int → List (S55) → List (S38) → Option (Int)
 | 0, _, _, _, _ => none
 | k + 1, x1, x5, x540000, x540001 => if x5 < (x540001.length : Int) then (if 0 ≤ x5 then (if ((rd_T38 x540001 x5).f0).toList = x1.toList then (some (((rd_T38 x540001 x5).f1).length : Int)) else (laws_lgBlocks.l0 k x1 (wrap64 (x5 + 1)) x540000 x540001)) else (none)) else (some 0)
def laws_lgBlocks.f (k : Nat) (l0_0 : List (S55)) (l0_1 : List (S38)) (a1 : ByteArray) : Option (Int) := laws_lgBlocks.l0 k a1 0 l0_0 l0_1
theorem laws_lgBlocks.mono_l : ∀ k, (∀ y0 y1 y2 y3, LeO (laws_lgBlocks.l0 k y0 y1 y2 y3) (laws_lgBlocks.l0 (k + 1) y0 y1 y2 y3))
 | 0 => fun _ _ _ _ r h => by simp [laws_lgBlocks.l0] at h
 | k + 1 => by
  have ih0 := laws_lgBlocks.mono_l k
  intro y0 y1 y2 y3
  unfold laws_lgBlocks.l0
  exact mo1 ih0
theorem laws_lgBlocks.mono : ∀ a0 a1 a2 k, LeO (laws_lgBlocks.f k a0 a1 a2) (laws_lgBlocks.f (k + 1) a0 a1 a2) := by
 intro a0 a1 a2 k
 have ih0 := laws_lgBlocks.mono_l k
 unfold laws_lgBlocks.f
 exact mo1 ih0
set_option maxHeartbeats 8000000 in
set_option maxRecDepth 100000 in
theorem laws_lgBlocks.calls (k : Nat) (A0_0 : Option Addr) (c0_0 : Nat) (l0_0 : List (S55)) (A0_1 : Option Addr) (c0_1 : Nat) (l0_1 : List (S38)) (a1 : ByteArray) (r : Int) (w : World) (hr0_0 : Kd.C k55 w A0_0 l0_0.length l0_0) (hc0_0 : l0_0.length ≤ c0_0) (hr0_1 : Kd.C k38 w A0_1 l0_1.length l0_1) (hc0_1 : l0_1.length ≤ c0_1) (h : laws_lgBlocks.f k l0_0 l0_1 a1 = some r) :
 Calls Try.prog 38 #[.agg #[.slice A0_0 l0_0.length c0_0, .slice A0_1 l0_1.length c0_1], .string a1] w fun e w' => e = .returned (.int .i64 r) ∧ Below w.heap.size w w' := by
 have hu31 := Try.underlying31
 have HR0_0 := am hr0_0
 have HC0_0 := am hc0_0
 clear hr0_0 hc0_0
 have HR0_1 := am hr0_1
 have HC0_1 := am hc0_1
 clear hr0_1 hc0_1
 have HB := am (Below.refl w.heap.size w)
 have H : (laws_lgBlocks.l0 k a1 0 l0_0 l0_1) = some r := h
 clear h
 have H' := am H
 clear H
 go_enter Try.func38, Try.ntmps38
 go_wp2_with (first | ((with_reducible refine gate_dst (N := 2) rfl ?_); refine bx 31 #[.slice A0_0 l0_0.length c0_0, .slice A0_1 l0_1.length c0_1] ?_; intro gb539 hg w3 hbox hb; have BK539 := am (hbox); have GW539 := am (zn hg (zb HB)); have GE539 := am (zn hg (zb HB)); replace HB := am (below_step (zb HB) hb); clear hb hbox hg))
 go_loopg [5] k (fun kq v5 w' => ∃ (x5_1 : Int), v5 = .int .i64 x5_1 ∧ Aside0 (laws_lgBlocks.l0 kq a1 x5_1 l0_0 l0_1 = some r) ∧ Aside0 (kq ≤ k) ∧ Aside0 (w'.heap[gb539]? = some (.cells #[(.slice A0_0 l0_0.length c0_0), (.slice A0_1 l0_1.length c0_1)] 31 (0, 0))) ∧ Aside0 (Below w.heap.size w w'))
 case atStart => exact ⟨(0), ze, H', ⟨Nat.le_refl _⟩, ⟨zk BK539⟩, ⟨zb HB⟩⟩
 case round =>
  clear H'
  try clear p2
  try clear c3
  obtain ⟨x5_1, rfl, HA, HK1, BK539, HB⟩ := hrel
  cases gk with
  | zero => exact absurd HA.out (by simp [laws_lgBlocks.l0])
  | succ k1 =>
   have H := HA.out
   clear HA
   simp only [laws_lgBlocks.l0] at H
   by_cases c4 : x5_1 < (l0_1.length : Int)
   rotate_left
   · rw [if_neg c4] at H
     have c4b0 : decide (x5_1 < (l0_1.length : Int)) = false := decide_eq_false c4
     clear c4
     obtain rfl := Option.some.inj H
     have hcz9_0 := ce0 BK539
     have hcz9_1 := ce1 BK539
     have hfz9_0 := bfz BK539 0
     have hfz9_1 := bfz BK539 1
     go_wp2
     go_ret
     exact ⟨zv, (zb HB)⟩
   rw [if_pos c4] at H
   have c4b0 : decide (x5_1 < (l0_1.length : Int)) = true := decide_eq_true c4
   clear c4
   by_cases c5 : 0 ≤ x5_1
   rotate_left
   · rw [if_neg c5] at H
     exact absurd H (by simp)
   rw [if_pos c5] at H
   have c5b0 : decide (0 ≤ x5_1) = true := decide_eq_true c5
   clear c5
   by_cases c6 : ((rd_T38 l0_1 x5_1).f0).toList = a1.toList
   rotate_left
   · rw [if_neg c6] at H
     have c6b0 : (((rd_T38 l0_1 x5_1).f0).toList == a1.toList) = false := beq_eq_false_iff_ne.mpr c6
     have c6b1 : (((rd_T38 l0_1 x5_1).f0).toList != a1.toList) = true := bne_iff_ne.mpr c6
     have H' := am H
     clear H
     have hcz8_0 := ce0 BK539
     have hcz8_1 := ce1 BK539
     have hfz8_0 := bfz BK539 0
     have hfz8_1 := bfz BK539 1
     have p540 : 0 ≤ (x5_1 : Int) := of_decide_eq_true zl
     have q540 : x5_1 < (l0_1.length : Int) := of_decide_eq_true zl
     obtain ⟨ad540, A540_1, c540_1, e540, hx540_0, hx540_1, hl540_1, hi540_1⟩ := at_T38 HR0_1.out x5_1 p540 q540
     cases e540
     replace hx540_0 := hcx HB hx540_0
     replace hx540_1 := hcx HB hx540_1
     have HR540_1 := am hi540_1
     have HC540_1 := am hl540_1
     clear hi540_1 hl540_1
     replace p540 := eq_true p540
     replace q540 := eq_true q540
     go_wp2
     go_roundg k1
     case measure => have := HK1.out; omega
     case rel => exact ⟨(wrap64 (x5_1 + 1)), ze, H', ⟨by have := HK1.out; omega⟩, ⟨zk BK539⟩, ⟨zb HB⟩⟩
   rw [if_pos c6] at H
   have c6b0 : (((rd_T38 l0_1 x5_1).f0).toList == a1.toList) = true := beq_iff_eq.mpr c6
   have c6b1 : (((rd_T38 l0_1 x5_1).f0).toList != a1.toList) = false := bne_eq_false_iff_eq.mpr c6
   clear c6
   obtain rfl := Option.some.inj H
   have hcz7_0 := ce0 BK539
   have hcz7_1 := ce1 BK539
   have hfz7_0 := bfz BK539 0
   have hfz7_1 := bfz BK539 1
   have p540 : 0 ≤ (x5_1 : Int) := of_decide_eq_true zl
   have q540 : x5_1 < (l0_1.length : Int) := of_decide_eq_true zl
   obtain ⟨ad540, A540_1, c540_1, e540, hx540_0, hx540_1, hl540_1, hi540_1⟩ := at_T38 HR0_1.out x5_1 p540 q540
   cases e540
   replace hx540_0 := hcx HB hx540_0
   replace hx540_1 := hcx HB hx540_1
   have HR540_1 := am hi540_1
   have HC540_1 := am hl540_1
   clear hi540_1 hl540_1
   replace p540 := eq_true p540
   replace q540 := eq_true q540
   have p541 : 0 ≤ (x5_1 : Int) := of_decide_eq_true zl
   have q541 : x5_1 < (l0_1.length : Int) := of_decide_eq_true zl
   obtain ⟨ad541, A541_1, c541_1, e541, hx541_0, hx541_1, hl541_1, hi541_1⟩ := at_T38 HR0_1.out x5_1 p541 q541
   obtain rfl : ad540 = ad541 := (by injection e541)
   replace hx541_0 := hcx HB hx541_0
   replace hx541_1 := hcx HB hx541_1
   have HR541_1 := am hi541_1
   have HC541_1 := am hl541_1
   clear hi541_1 hl541_1
   replace p541 := eq_true p541
   replace q541 := eq_true q541
   have ea_ := Option.some.inj (hx540_1.symm.trans hx541_1)
   injection ea_ with ea_ en_ ec_
   subst ea_
   subst ec_
   clear en_
   go_wp2
   go_ret
   exact ⟨zv, (zb HB)⟩
end Go.Proofs.Ytooamacekmjpaaa.PFnReadOnly
