/- The walk: each function that the law comes to as a plain Lean function, and a proof that the Go code answers so. Written by this session's program over the kit's printer. -/
import Derived.Test.YtooamacekmjpaaaZ
import Derived.Test.YtooamacekmjpaaaQFnVolCount0
import Derived.Test.YtooamacekmjpaaaQFnVolCount1
import Derived.Test.YtooamacekmjpaaaQFnVolCount11
namespace Go.Proofs.Ytooamacekmjpaaa.PFnVolCount
open Go.RowKit Go.Proofs.YtooamacekmjpaaaW.PrintWords Go.Proofs.YtooamacekmjpaaaW.PrintLast Go.Proofs.YtooamacekmjpaaaW.PrintMore
attribute [local go_sem] max2_int min2_int max_two min_two max_three min_three max_four min_four   -- for this text's walks alone
set_option linter.unusedVariables false
set_option linter.unusedSimpArgs false
/-! ### spec_DrawVolUses: function 26 -/
mutual
def spec_DrawVolUses.l0 : Nat → Int → List Int → Int → ByteArray → List Int → Option (ByteArray × List Int × Int)
 | 0, _, _, _, _, _ => none
 | k + 1, x6, x485000, x485001, x490000, x490001 => if x6 < 6 then (if (x490001.length : Int) > 0 then ((spec_l6Rd_pick.f k x485000 x485001 6).bind fun bt490 => (spec_DrawVolUses.j1 k x6 (decide (bt490.1 > 0)) x485000 bt490.2 x490000 x490001)) else (spec_DrawVolUses.j1 k x6 false x485000 x485001 x490000 x490001)) else (spec_DrawVolUses.j1 k x6 false x485000 x485001 x490000 x490001)
def spec_DrawVolUses.j1 : Nat → Int → Bool → List Int → Int → ByteArray → List Int → Option (ByteArray × List Int × Int)
 | 0, _, _, _, _, _, _ => none
 | k + 1, x6, x24, x485000, x485001, x490000, x490001 => if x24 = true then ((spec_l6Rd_pick.f k x485000 x485001 (x490001.length : Int)).bind fun bt492 => (if 0 ≤ bt492.1 then (if bt492.1 < (x490001.length : Int) then (if (rd x490001 bt492.1) > 0 then (some (x490000, x490001, rd x490001 bt492.1)) else (spec_DrawVolUses.l0 k (wrap64 (x6 + 1)) x485000 bt492.2 x490000 x490001)) else (none)) else (none))) else ((spec_l6Rd_pick.f k x485000 x485001 10).bind fun bt495 => (some (x490000, x490001, bt495.1)))
end
def spec_DrawVolUses.f (k : Nat) (l0 : List Int) : Option (ByteArray × List Int × Int) := (spec_l6Open.f l0).bind fun bt482 => ((spec_DrawVolOk.f k l0).bind fun bt485 => (spec_DrawVolUses.l0 k 0 bt482.1 bt482.2 bt485.1 bt485.2))
theorem spec_DrawVolUses.mono_l : ∀ k, (∀ y0 y1 y2 y3 y4, LeO (spec_DrawVolUses.l0 k y0 y1 y2 y3 y4) (spec_DrawVolUses.l0 (k + 1) y0 y1 y2 y3 y4)) ∧ (∀ y0 y1 y2 y3 y4 y5, LeO (spec_DrawVolUses.j1 k y0 y1 y2 y3 y4 y5) (spec_DrawVolUses.j1 (k + 1) y0 y1 y2 y3 y4 y5))
 | 0 => ⟨fun _ _ _ _ _ r h => by simp [spec_DrawVolUses.l0] at h, fun _ _ _ _ _ _ r h => by simp [spec_DrawVolUses.j1] at h⟩
 | k + 1 => by
  obtain ⟨ih0, ih1⟩ := spec_DrawVolUses.mono_l k
  refine ⟨?_, ?_⟩
  · intro y0 y1 y2 y3 y4
    unfold spec_DrawVolUses.l0
    exact mo4 ih0 ih1 @spec_DrawVolOk.mono @spec_l6Rd_pick.mono
  intro y0 y1 y2 y3 y4 y5
  unfold spec_DrawVolUses.j1
  exact mo4 ih0 ih1 @spec_DrawVolOk.mono @spec_l6Rd_pick.mono
theorem spec_DrawVolUses.mono : ∀ a0 k, LeO (spec_DrawVolUses.f k a0) (spec_DrawVolUses.f (k + 1) a0) := by
 intro a0 k
 obtain ⟨ih0, ih1⟩ := spec_DrawVolUses.mono_l k
 unfold spec_DrawVolUses.f
 exact mo4 ih0 ih1 @spec_DrawVolOk.mono @spec_l6Rd_pick.mono
def spec_DrawVolUses.T6 : Bool × List (List Nat × List Nat) := (true, [([], []), ([0], [0]), ([], []), ([], []), ([3], [3]), ([4], [4]), ([2, 5], [2, 5]), ([1, 6], [1, 6]), ([7], [7]), ([8, 6, 0, 1, 2, 3, 4, 5, 6, 7, 8], [8])])
def spec_DrawVolUses.B6 : List Nat := [0, 1, 0, 0, 8, 24, 60, 127, 255, 511]
theorem spec_DrawVolUses.tab6 : rtab .any (opsOf Try.f26 6) = spec_DrawVolUses.T6 := by kernel_rfl
theorem spec_DrawVolUses.bits6 : waitsOk spec_DrawVolUses.T6.2 spec_DrawVolUses.B6 = true := by kernel_rfl
set_option maxHeartbeats 8000000 in
set_option maxRecDepth 100000 in
theorem spec_DrawVolUses.calls (k : Nat) (A0 : Option Addr) (c0 : Nat) (l0 : List Int) (r1 : ByteArray) (r2 : List Int) (r3 : Int) (w : World) (hr0 : Kd.C (Kd.int .u8) w A0 l0.length l0) (hc0 : l0.length ≤ c0) (h : spec_DrawVolUses.f k l0 = some (r1, r2, r3)) :
 Calls Try.prog 26 #[.slice A0 l0.length c0] w fun e w' => ∃ v1_ : Value, e = .returned (.tuple #[.agg #[.string r1, v1_], .int .i64 r3]) ∧ Kd.Q (Kd.int .i64) 3 w' w.heap.size (fun _ => True) v1_ r2 ∧ Below w.heap.size w w' := by
 have hu38 := Try.underlying38
 have HR0 := am hr0
 have HC0 := am hc0
 clear hr0 hc0
 have HB := am (Below.refl w.heap.size w)
 have H : ((spec_l6Open.f l0).bind fun bt482 => ((spec_DrawVolOk.f k l0).bind fun bt485 => (spec_DrawVolUses.l0 k 0 bt482.1 bt482.2 bt485.1 bt485.2))) = some (r1, r2, r3) := h
 clear h
 replace H := obs H
 obtain ⟨⟨t482, t483⟩, A20, H⟩ := H
 replace H : ((spec_DrawVolOk.f k l0).bind fun bt485 => (spec_DrawVolUses.l0 k 0 t482 t483 bt485.1 bt485.2)) = some (r1, r2, r3) := H
 have A2 := am A20
 clear A20
 replace H := obs H
 obtain ⟨⟨t485, t486⟩, A30, H⟩ := H
 replace H : (spec_DrawVolUses.l0 k 0 t482 t483 t485 t486) = some (r1, r2, r3) := H
 have A3 := am A30
 clear A30
 have H' := am H
 clear H
 go_enter Try.func26, Try.ntmps26
 go_wp2_with (first | ((with_reducible refine gate_dst (N := 2) rfl ?_); (try (refine gate_guard (by rfl) ?_; dsimp only)); refine bx 38 #[.string (⟨#[]⟩ : ByteArray), .slice none 0 0] ?_; intro gb481 hg w4 hbox hb; have BK481 := am (hbox); have GW481 := am (zn hg (zb HB)); have GE481 := am (zn hg (zb HB)); replace HB := am (below_step (zb HB) hb); clear hb hbox hg) | ((with_reducible refine gate_callee (f := 49) rfl ?_); refine gl Try.func49 9 #[.slice A0 l0.length c0] rfl rfl rfl ?_; (with_reducible refine (spec_l6Open.calls _ _ l0 t482 t483 w _ ?side1 ?side2 ?side3 A2.out).mono ?_); (case side1 => exact zb HB); (case side2 => exact HR0.out); (case side3 => exact HC0.out); rintro e w5 ⟨g484, rfl, hi, hb, hb2⟩; refine ⟨_, rfl, ?_⟩; replace HB := am (hb); have HI484 := am (hi); have NB484_481 := am (IsS93.ne_blk hi (blk_below (zk BK481) hb2) (by decide)); have NB481_484 := am (Ne.symm (IsS93.ne_blk hi (blk_below (zk BK481) hb2) (by decide))); replace BK481 := am (blk_below (zk BK481) hb2); (try clear hb); (try clear hb2); (try clear hk); (try clear hi)) | ((with_reducible refine gate_callee (f := 19) rfl ?_); refine gl Try.func19 11 #[.slice A0 l0.length c0] rfl rfl rfl ?_; (with_reducible refine (spec_DrawVolOk.calls k _ _ l0 t485 t486 _ ?side1 ?side2 A3.out).mono ?_); (case side1 => exact zc (Kd.C_below HR0.out HB.out)); (case side2 => exact HC0.out); rintro e w6 ⟨v487, rfl, ho0, hb⟩; refine ⟨_, rfl, ?_⟩; have HO488 := am (Kd.Q_lower ho0 (below_size (zb HB))); replace BK481 := am (blk_below (zk BK481) hb); replace HI484 := am (IsS93.below (zi HI484) hb); replace HB := am (below_step (zb HB) hb); (try clear hb); (try clear hb2); (try clear hk); (try clear hi); (try clear ho0)) | ((with_reducible refine gate_dst (N := 5) rfl ?_); (try (refine gate_guard (by rfl) ?_; dsimp only)); refine bx 38 #[.string (⟨#[]⟩ : ByteArray), .slice none 0 0] ?_; intro gb489 hg w7 hbox hb; replace HO488 := am (Kd.Q_below (by (with_reducible repeat (first | apply Kd.Q_alloc | apply Kd.Q_drewN | apply Kd.Q_drew)); exact HO488.out) hb); have BK489 := am (hbox); have GW489 := am (zn hg (zb HB)); have GE489 := am (zn hg (zb HB)); replace HB := am (below_step (zb HB) hb); have NB481_489 := am (zx hg (zk BK481)); have NB489_481 := am (zy hg (zk BK481)); replace BK481 := am (blk_below (zk BK481) hb); have NB484_489 := am (ix hg (zi HI484)); have NB489_484 := am (iy hg (zi HI484)); replace HI484 := am (IsS93.below (zi HI484) hb); clear hb hbox hg; have hnb8 := NB489_481.out; have hnc8 := NB481_489.out; have hnb9 := NB489_484.out; have hnc9 := NB484_489.out; have hcz10_0 := ce0 BK489; have hcz10_1 := ce1 BK489; have hfz10_0 := bfz BK489 0; have hfz10_1 := bfz BK489 1; obtain ⟨Ao11, co11, eo11, _⟩ := Kd.Q_slice HO488.out; subst eo11))
 go_loopg [6] k (fun kq v6 w' => ∃ (x6_1 : Int) (x482000_1 : ByteArray) (x485001_1 : Int), v6 = .int .i64 x6_1 ∧ Aside0 (spec_DrawVolUses.l0 kq x6_1 t482 x485001_1 t485 t486 = some (r1, r2, r3)) ∧ Aside0 (kq ≤ k) ∧ Aside0 (Kd.Q (Kd.int .i64) 3 w' w.heap.size (fun _ => True) (.slice Ao11 t486.length co11) t486) ∧ Aside0 (w'.heap[gb481]? = some (.cells #[.string x482000_1, (.slice none 0 0)] 38 (0, 0))) ∧ Aside0 (w'.heap[gb489]? = some (.cells #[.string t485, (.slice Ao11 t486.length co11)] 38 (0, 0))) ∧ Aside0 (IsS93 w w' g484 t482 x485001_1) ∧ Aside0 (Below w.heap.size w w'))
 case atStart => exact ⟨(0), ((⟨#[]⟩ : ByteArray)), (t483), ze, H', ⟨Nat.le_refl _⟩, ⟨by (with_reducible repeat (first | apply Kd.Q_alloc | apply Kd.Q_drewN | apply Kd.Q_drew)); exact Kd.Q_mono (Kd.Q_far (p := ⟨gb489, 1, none⟩) (Kd.Q_far (p := ⟨gb489, 0, none⟩) (Kd.Q_types HO488.out BK489.out (by decide)) (fun _ hk => hk.2) (.string t485)) (fun _ hk => hk.2) (.slice Ao11 t486.length co11)) (fun _ hk => trivial)⟩, ⟨zk BK481⟩, ⟨zp BK489⟩, ⟨zi HI484⟩, ⟨zb HB⟩⟩
 case round =>
  clear H'
  try clear c1
  try clear c2
  try clear p2
  try clear c4
  try clear c8
  try clear c9
  try clear hcz10_0
  try clear hcz10_1
  try clear hfz10_0
  try clear hfz10_1
  obtain ⟨x6_1, x482000_1, x485001_1, rfl, HA, HK1, HO_490001, BK481, BK489, HI484, HB⟩ := hrel
  cases gk with
  | zero => exact absurd HA.out (by simp [spec_DrawVolUses.l0])
  | succ k1 =>
   have H := HA.out
   clear HA
   simp only [spec_DrawVolUses.l0] at H
   have HC12 := am H
   clear H
   go_upto_region 4 with (fail)
   go_cut [24] (fun v24 wc => ∃ (kq : Nat) (x24_11 : Bool) (x485001_11 : Int), v24 = .bool x24_11 ∧ Aside0 (spec_DrawVolUses.j1 kq x6_1 x24_11 t482 x485001_11 t485 t486 = some (r1, r2, r3)) ∧ Aside0 (kq ≤ k1) ∧ Aside0 (Kd.Q (Kd.int .i64) 3 wc w.heap.size (fun _ => True) (.slice Ao11 t486.length co11) t486) ∧ Aside0 (wc.heap[gb481]? = some (.cells #[.string x482000_1, (.slice none 0 0)] 38 (0, 0))) ∧ Aside0 (wc.heap[gb489]? = some (.cells #[.string t485, (.slice Ao11 t486.length co11)] 38 (0, 0))) ∧ Aside0 (IsS93 w wc g484 t482 x485001_11) ∧ Aside0 (Below w.heap.size w wc))
   case first =>
    have H := HC12.out
    clear HC12
    by_cases c13 : x6_1 < 6
    rotate_left
    · rw [if_neg c13] at H
      have c13b0 : decide (x6_1 < 6) = false := decide_eq_false c13
      clear c13
      (first | rw [c13b0] | (simp only [i64_w, i32_w]; rw [c13b0]) | skip)
      have H' := am H
      clear H
      go_wp2
      go_meet
      case rel => exact ⟨_, (false), (x485001_1), ze, H', ⟨by have := HK1.out; first | omega | exact Nat.le_refl _⟩, ⟨by (with_reducible repeat (first | apply Kd.Q_alloc | apply Kd.Q_drewN | apply Kd.Q_drew)); exact HO_490001.out⟩, ⟨zk BK481⟩, ⟨zk BK489⟩, ⟨zi HI484⟩, ⟨zb HB⟩⟩
    rw [if_pos c13] at H
    have c13b0 : decide (x6_1 < 6) = true := decide_eq_true c13
    clear c13
    (first | rw [c13b0] | (simp only [i64_w, i32_w]; rw [c13b0]) | skip)
    by_cases c14 : (t486.length : Int) > 0
    rotate_left
    · rw [if_neg c14] at H
      have c14b0 : decide (0 < (t486.length : Int)) = false := decide_eq_false c14
      have c14b1 : decide (0 < t486.length) = false := decide_eq_false (by omega)
      clear c14
      have H' := am H
      clear H
      have hnb20 := NB489_481.out
      have hnc20 := NB481_489.out
      have hnb21 := NB489_484.out
      have hnc21 := NB484_489.out
      have hcz22_0 := ce0 BK489
      have hcz22_1 := ce1 BK489
      have hfz22_0 := bfz BK489 0
      have hfz22_1 := bfz BK489 1
      go_wp2
      go_meet
      case rel => exact ⟨_, (false), (x485001_1), ze, H', ⟨by have := HK1.out; first | omega | exact Nat.le_refl _⟩, ⟨by (with_reducible repeat (first | apply Kd.Q_alloc | apply Kd.Q_drewN | apply Kd.Q_drew)); exact HO_490001.out⟩, ⟨zk BK481⟩, ⟨zk BK489⟩, ⟨zi HI484⟩, ⟨zb HB⟩⟩
    rw [if_pos c14] at H
    have c14b0 : decide (0 < (t486.length : Int)) = true := decide_eq_true c14
    have c14b1 : decide (0 < t486.length) = true := decide_eq_true (by omega)
    clear c14
    replace H := obs H
    obtain ⟨⟨t490, t491⟩, A150, H⟩ := H
    replace H : (spec_DrawVolUses.j1 k1 x6_1 (decide (t490 > 0)) t482 t491 t485 t486) = some (r1, r2, r3) := H
    have A15 := am A150
    clear A150
    have H' := am H
    clear H
    have hnb16 := NB489_481.out
    have hnc16 := NB481_489.out
    have hnb17 := NB489_484.out
    have hnc17 := NB484_489.out
    have hcz18_0 := ce0 BK489
    have hcz18_1 := ce1 BK489
    have hfz18_0 := bfz BK489 0
    have hfz18_1 := bfz BK489 1
    go_wp2_with (first | (go_at_call 51; (with_reducible refine (spec_l6Rd_pick.calls k1 g484 t482 x485001_1 6 t490 t491 w _ ?side1 ?side2 A15.out).mono ?_); (case side1 => exact zi HI484); (case side2 => exact zb HB); rintro e w19 ⟨rfl, hi, hb, hk⟩; replace HO_490001 := am (Kd.Q_mono (Kd.Q_keep (IsS93.apartQ (zi HI484) (by (with_reducible repeat (first | apply Kd.Q_alloc | apply Kd.Q_drewN | apply Kd.Q_drew)); exact HO_490001.out) (by decide)) hk (fun _ h => h.2)) (fun _ h => h.1)); replace BK481 := am (KeepBut.blk hk (zk BK481) NB481_484.out (by simp)); replace BK489 := am (KeepBut.blk hk (zk BK489) NB489_484.out (by simp)); replace HB := am (hb); replace HI484 := am (hi); (try clear hb); (try clear hb2); (try clear hk); (try clear hi)))
    go_meet
    case rel => exact ⟨_, (decide (t490 > 0)), (t491), ze, H', ⟨by have := HK1.out; first | omega | exact Nat.le_refl _⟩, ⟨by (with_reducible repeat (first | apply Kd.Q_alloc | apply Kd.Q_drewN | apply Kd.Q_drew)); exact HO_490001.out⟩, ⟨zk BK481⟩, ⟨zk BK489⟩, ⟨zi HI484⟩, ⟨zb HB⟩⟩
   clear HC12
   try clear c1
   try clear c2
   try clear p2
   try clear c4
   try clear c8
   try clear c9
   try clear c13
   try clear c13b0
   try clear c14
   try clear c14b0
   try clear c14b1
   try clear c16
   try clear c17
   try clear c19
   try clear c20
   try clear c21
   try clear hcz10_0
   try clear hcz10_1
   try clear hcz18_0
   try clear hcz18_1
   try clear hcz22_0
   try clear hcz22_1
   try clear hfz10_0
   try clear hfz10_1
   try clear hfz18_0
   try clear hfz18_1
   try clear hfz22_0
   try clear hfz22_1
   try clear p2
   obtain ⟨kq, x24_11, x485001_11, rfl, HA, HJ11, HO_490001, BK481, BK489, HI484, HB⟩ := hcut
   cases kq with
   | zero => exact absurd HA.out (by simp [spec_DrawVolUses.j1])
   | succ kj11 =>
    have H := HA.out
    clear HA
    simp only [spec_DrawVolUses.j1] at H
    by_cases c23 : x24_11 = true
    rotate_left
    · replace c23 := Bool.eq_false_iff.mpr c23
      subst c23
      have H1 : ((spec_l6Rd_pick.f kj11 t482 x485001_11 10).bind fun bt495 => (some (t485, t486, bt495.1))) = some (r1, r2, r3) := by rw [if_neg (show ¬ (false = true) by decide)] at H; exact H
      clear H
      have H := H1
      clear H1
      replace H := obs H
      obtain ⟨⟨t495, t496⟩, A370, H⟩ := H
      replace H : (some (t485, t486, t495)) = some (r1, r2, r3) := H
      have A37 := am A370
      clear A370
      simp only [Option.some.injEq, Prod.mk.injEq] at H
      obtain ⟨rfl, rfl, rfl⟩ := H
      try go_wp2
      replace HO_490001 := am (Kd.Q_drew HO_490001.out)
      replace BK481 := am (blk_drew BK481.out)
      replace BK489 := am (blk_drew BK489.out)
      replace HI484 := am (IsS93.drew HI484.out)
      replace HB := am (below_drew1 HB.out)
      refine start_ (n := 5) (S := fun w' => w'.cell? ⟨gb489, 0, none⟩ = some (.string t485) ∧ w'.cell? ⟨gb489, 1, none⟩ = some (.slice Ao11 t486.length co11)) (ds := []) (bs 5 0) (by kernel_rfl) rfl rfl ⟨ce0 BK489, ce1 BK489⟩ (fun hHeld => ?_)
      generalize wc.drew = w38 at HO_490001 BK481 BK489 HI484 HB hHeld ⊢
      refine pu 1 41 5 2 rfl rfl ?_
      refine ta2 0 40 5 3 rfl rfl hHeld ?_
      refine oz 2 5 7 rfl rfl (fun K hK => ?_)
      refine gs Try.func51 #[.pointer (some ⟨g484, 0, none⟩), .int .i64 10] rfl rfl ?_
      with_reducible refine (spec_l6Rd_pick.calls kj11 g484 t482 x485001_11 10 t495 t496 w _ ?side1 ?side2 A37.out).mono ?_
      (case side1 => exact zi HI484)
      (case side2 => exact zb HB)
      rintro e w39 ⟨rfl, hi, hb, hk⟩
      refine ⟨_, rfl, ?_⟩
      replace HO_490001 := am (Kd.Q_mono (Kd.Q_keep (IsS93.apartQ (zi HI484) (by (with_reducible repeat (first | apply Kd.Q_alloc | apply Kd.Q_drewN | apply Kd.Q_drew)); exact HO_490001.out) (by decide)) hk (fun _ h => h.2)) (fun _ h => h.1))
      replace BK481 := am (KeepBut.blk hk (zk BK481) NB481_484.out (by simp))
      replace BK489 := am (KeepBut.blk hk (zk BK489) NB489_484.out (by simp))
      replace HB := am (hb)
      replace HI484 := am (hi)
      (try clear hb)
      (try clear hb2)
      (try clear hk)
      (try clear hi)
      refine hK.out _ _ ⟨ce0 BK489, ce1 BK489⟩ (fun hHeld => ?_)
      clear hK K
      refine norm_ (a' := ?_) ?_ ?_
      rotate_left
      · show Act.put _ (some 42) _ = _
        simp only [Act.put, List.setIfInBounds_toArray, List.set_cons_zero, List.set_cons_succ, i64_w, i32_w]
        rfl
      refine oz 3 5 15 rfl rfl (fun K hK => ?_)
      have hs40 := ce0 BK481
      have hfs40 := bfz BK481 0
      have hns40_1 := NB489_481.out
      have hms40_1 := NB481_489.out
      have hs41 := ce1 BK481
      have hfs41 := bfz BK481 1
      have hns41_1 := NB489_481.out
      have hms41_1 := NB481_489.out
      refine skip_ (w1 := ?_) (by rfl) rfl ?_ ?_
      rotate_left
      · go_simp
        rfl
      refine hK.out _ _ ⟨((cell_far (p := ⟨gb481, _, none⟩) NB489_481.out _).trans (((cell_far (p := ⟨gb481, _, none⟩) NB489_481.out _).trans (hHeld.1)))), ((cell_far (p := ⟨gb481, _, none⟩) NB489_481.out _).trans (((cell_far (p := ⟨gb481, _, none⟩) NB489_481.out _).trans (hHeld.2))))⟩ (fun hHeld => ?_)
      clear hK K
      refine pu 4 3 5 31 rfl rfl ?_
      refine done_ (by kernel_rfl) ?_
      try go_wp2
      refine bodyPost_ret (results_ct rfl _ _ gb481 38 #[.string t485, .slice Ao11 t486.length co11] (0, 0) _ rfl (zp BK481) Try.underlying38 rfl (by kernel_rfl)) rfl ?_
      exact ⟨_, zw, by (with_reducible repeat (first | apply Kd.Q_alloc | apply Kd.Q_drewN | apply Kd.Q_drew)); exact Kd.Q_mono (Kd.Q_far (p := ⟨gb481, 1, none⟩) (Kd.Q_far (p := ⟨gb481, 0, none⟩) (Kd.Q_types HO_490001.out BK481.out (by decide)) (fun _ hk => hk.2) (.string t485)) (fun _ hk => hk.2) (.slice Ao11 t486.length co11)) (fun _ hk => trivial), (zb HB)⟩
    subst c23
    have H1 : ((spec_l6Rd_pick.f kj11 t482 x485001_11 (t486.length : Int)).bind fun bt492 => (if 0 ≤ bt492.1 then (if bt492.1 < (t486.length : Int) then (if (rd t486 bt492.1) > 0 then (some (t485, t486, rd t486 bt492.1)) else (spec_DrawVolUses.l0 kj11 (wrap64 (x6_1 + 1)) t482 bt492.2 t485 t486)) else (none)) else (none))) = some (r1, r2, r3) := by rw [if_pos rfl] at H; exact H
    clear H
    have H := H1
    clear H1
    replace H := obs H
    obtain ⟨⟨t492, t493⟩, A240, H⟩ := H
    replace H : (if 0 ≤ t492 then (if t492 < (t486.length : Int) then (if (rd t486 t492) > 0 then (some (t485, t486, rd t486 t492)) else (spec_DrawVolUses.l0 kj11 (wrap64 (x6_1 + 1)) t482 t493 t485 t486)) else (none)) else (none)) = some (r1, r2, r3) := H
    have A24 := am A240
    clear A240
    by_cases c25 : 0 ≤ t492
    rotate_left
    · rw [if_neg c25] at H
      exact absurd H (by simp)
    rw [if_pos c25] at H
    have c25b0 : decide (0 ≤ t492) = true := decide_eq_true c25
    clear c25
    by_cases c26 : t492 < (t486.length : Int)
    rotate_left
    · rw [if_neg c26] at H
      exact absurd H (by simp)
    rw [if_pos c26] at H
    have c26b0 : decide (t492 < (t486.length : Int)) = true := decide_eq_true c26
    clear c26
    by_cases c27 : (rd t486 t492) > 0
    rotate_left
    · rw [if_neg c27] at H
      have c27b0 : decide (0 < (rd t486 t492)) = false := decide_eq_false c27
      clear c27
      have H' := am H
      clear H
      try go_wp2
      replace HO_490001 := am (Kd.Q_drew HO_490001.out)
      replace BK481 := am (blk_drew BK481.out)
      replace BK489 := am (blk_drew BK489.out)
      replace HI484 := am (IsS93.drew HI484.out)
      replace HB := am (below_drew1 HB.out)
      have p494 : 0 ≤ (t492 : Int) := of_decide_eq_true zl
      have q494 : t492 < (t486.length : Int) := of_decide_eq_true zl
      obtain ⟨ad494, e494, hx494_0⟩ := Kd.at_int (Kd.Q_reads' HO_490001.out).2.2 t492 p494 q494
      cases e494
      replace p494 := eq_true p494
      replace q494 := eq_true q494
      refine start_ (n := 10) (S := fun w' => w'.cell? ⟨gb489, 0, none⟩ = some (.string t485) ∧ w'.cell? ⟨gb489, 1, none⟩ = some (.slice (some ad494) t486.length co11) ∧ w'.cell? (ad494.add (t492).toNat) = some (.int .i64 (rd t486 t492))) (ds := []) (bs 10 0) (by kernel_rfl) rfl rfl ⟨ce0 BK489, ce1 BK489, hx494_0⟩ (fun hHeld => ?_); refine with_tabW spec_DrawVolUses.tab6 spec_DrawVolUses.bits6 (fun HT_ HW_ => ?_)
      generalize wc.drew = w35 at HO_490001 BK481 BK489 HI484 HB hx494_0 hHeld ⊢
      refine pu 0 27 10 1 rfl rfl ?_
      refine pu 2 29 10 5 rfl rfl ?_
      refine pu 3 30 10 13 rfl rfl ?_
      refine ta3 1 28 10 15 rfl rfl hHeld ?_
      refine ta3 4 31 10 31 rfl rfl hHeld ?_
      refine pu 5 32 10 63 rfl rfl ?_
      refine oz 6 10 127 rfl rfl (fun K hK => ?_)
      refine gs Try.func51 #[.pointer (some ⟨g484, 0, none⟩), .int .i64 (t486.length : Int)] rfl rfl ?_
      with_reducible refine (spec_l6Rd_pick.calls kj11 g484 t482 x485001_11 (t486.length : Int) t492 t493 w _ ?side1 ?side2 A24.out).mono ?_
      (case side1 => exact zi HI484)
      (case side2 => exact zb HB)
      rintro e w36 ⟨rfl, hi, hb, hk⟩
      have HS2_ := keep_cell hk (hHeld.2.2) (by first | (rw [add_block]; exact Kd.own_blk (IsS93.own_neQ HI484.out HO_490001.out (by decide))) | (show (Addr.add _ _).block ≠ _; rw [add_block]; exact Kd.own_blk (IsS93.own_neQ HI484.out HO_490001.out (by decide))) | exact Kd.own_blk (IsS93.own_neQ HI484.out HO_490001.out (by decide)))
      refine ⟨_, rfl, ?_⟩
      replace HO_490001 := am (Kd.Q_mono (Kd.Q_keep (IsS93.apartQ (zi HI484) (by (with_reducible repeat (first | apply Kd.Q_alloc | apply Kd.Q_drewN | apply Kd.Q_drew)); exact HO_490001.out) (by decide)) hk (fun _ h => h.2)) (fun _ h => h.1))
      replace BK481 := am (KeepBut.blk hk (zk BK481) NB481_484.out (by simp))
      replace BK489 := am (KeepBut.blk hk (zk BK489) NB489_484.out (by simp))
      replace HB := am (hb)
      replace HI484 := am (hi)
      (try clear hb)
      (try clear hb2)
      (try clear hk)
      (try clear hi)
      refine hK.out _ _ ⟨ce0 BK489, ce1 BK489, HS2_⟩ (fun hHeld => ?_)
      clear hK K
      refine norm_ (a' := ?_) ?_ ?_
      rotate_left
      · show Act.put _ (some 33) _ = _
        simp only [Act.put, List.setIfInBounds_toArray, List.set_cons_zero, List.set_cons_succ, i64_w, i32_w]
        rfl
      refine pu 7 34 10 255 rfl rfl ?_
      refine ta3 8 35 10 511 rfl rfl hHeld ?_
      refine pu 9 7 10 1023 rfl rfl ?_
      refine done_ (done_of HT_.out (by kernel_rfl)) ?_
      try go_wp2
      go_roundg kj11
      case measure => have := HK1.out; have := HJ11.out; omega
      case rel => exact ⟨(wrap64 (x6_1 + 1)), (x482000_1), (t493), ze, H', ⟨by have := HK1.out; have := HJ11.out; omega⟩, ⟨by (with_reducible repeat (first | apply Kd.Q_alloc | apply Kd.Q_drewN | apply Kd.Q_drew)); exact HO_490001.out⟩, ⟨zk BK481⟩, ⟨zk BK489⟩, ⟨zi HI484⟩, ⟨zb HB⟩⟩
    rw [if_pos c27] at H
    have c27b0 : decide (0 < (rd t486 t492)) = true := decide_eq_true c27
    clear c27
    simp only [Option.some.injEq, Prod.mk.injEq] at H
    obtain ⟨rfl, rfl, rfl⟩ := H
    try go_wp2
    replace HO_490001 := am (Kd.Q_drew HO_490001.out)
    replace BK481 := am (blk_drew BK481.out)
    replace BK489 := am (blk_drew BK489.out)
    replace HI484 := am (IsS93.drew HI484.out)
    replace HB := am (below_drew1 HB.out)
    have p494 : 0 ≤ (t492 : Int) := of_decide_eq_true zl
    have q494 : t492 < (t486.length : Int) := of_decide_eq_true zl
    obtain ⟨ad494, e494, hx494_0⟩ := Kd.at_int (Kd.Q_reads' HO_490001.out).2.2 t492 p494 q494
    cases e494
    replace p494 := eq_true p494
    replace q494 := eq_true q494
    refine start_ (n := 10) (S := fun w' => w'.cell? ⟨gb489, 0, none⟩ = some (.string t485) ∧ w'.cell? ⟨gb489, 1, none⟩ = some (.slice (some ad494) t486.length co11) ∧ w'.cell? (ad494.add (t492).toNat) = some (.int .i64 (rd t486 t492))) (ds := []) (bs 10 0) (by kernel_rfl) rfl rfl ⟨ce0 BK489, ce1 BK489, hx494_0⟩ (fun hHeld => ?_); refine with_tabW spec_DrawVolUses.tab6 spec_DrawVolUses.bits6 (fun HT_ HW_ => ?_)
    generalize wc.drew = w28 at HO_490001 BK481 BK489 HI484 HB hx494_0 hHeld ⊢
    refine pu 0 27 10 1 rfl rfl ?_
    refine pu 2 29 10 5 rfl rfl ?_
    refine pu 3 30 10 13 rfl rfl ?_
    refine ta3 1 28 10 15 rfl rfl hHeld ?_
    refine ta3 4 31 10 31 rfl rfl hHeld ?_
    refine pu 5 32 10 63 rfl rfl ?_
    refine oz 6 10 127 rfl rfl (fun K hK => ?_)
    refine gs Try.func51 #[.pointer (some ⟨g484, 0, none⟩), .int .i64 (t486.length : Int)] rfl rfl ?_
    with_reducible refine (spec_l6Rd_pick.calls kj11 g484 t482 x485001_11 (t486.length : Int) t492 t493 w _ ?side1 ?side2 A24.out).mono ?_
    (case side1 => exact zi HI484)
    (case side2 => exact zb HB)
    rintro e w29 ⟨rfl, hi, hb, hk⟩
    have HS2_ := keep_cell hk (hHeld.2.2) (by first | (rw [add_block]; exact Kd.own_blk (IsS93.own_neQ HI484.out HO_490001.out (by decide))) | (show (Addr.add _ _).block ≠ _; rw [add_block]; exact Kd.own_blk (IsS93.own_neQ HI484.out HO_490001.out (by decide))) | exact Kd.own_blk (IsS93.own_neQ HI484.out HO_490001.out (by decide)))
    refine ⟨_, rfl, ?_⟩
    replace HO_490001 := am (Kd.Q_mono (Kd.Q_keep (IsS93.apartQ (zi HI484) (by (with_reducible repeat (first | apply Kd.Q_alloc | apply Kd.Q_drewN | apply Kd.Q_drew)); exact HO_490001.out) (by decide)) hk (fun _ h => h.2)) (fun _ h => h.1))
    replace BK481 := am (KeepBut.blk hk (zk BK481) NB481_484.out (by simp))
    replace BK489 := am (KeepBut.blk hk (zk BK489) NB489_484.out (by simp))
    replace HB := am (hb)
    replace HI484 := am (hi)
    (try clear hb)
    (try clear hb2)
    (try clear hk)
    (try clear hi)
    refine hK.out _ _ ⟨ce0 BK489, ce1 BK489, HS2_⟩ (fun hHeld => ?_)
    clear hK K
    refine norm_ (a' := ?_) ?_ ?_
    rotate_left
    · show Act.put _ (some 33) _ = _
      simp only [Act.put, List.setIfInBounds_toArray, List.set_cons_zero, List.set_cons_succ, i64_w, i32_w]
      rfl
    refine pu 7 34 10 255 rfl rfl ?_
    refine ta3 8 35 10 511 rfl rfl hHeld ?_
    refine pu 9 7 10 1023 rfl rfl ?_
    refine done_ (done_of HT_.out (by kernel_rfl)) ?_
    have hnb30 := NB489_481.out
    have hnc30 := NB481_489.out
    have hnb31 := NB489_484.out
    have hnc31 := NB484_489.out
    have hcz32_0 := ce0 BK489
    have hcz32_1 := ce1 BK489
    have hfz32_0 := bfz BK489 0
    have hfz32_1 := bfz BK489 1
    have hnb33 := NB481_484.out
    have hnc33 := NB484_481.out
    have hcz34_0 := ce0 BK481
    have hcz34_1 := ce1 BK481
    have hfz34_0 := bfz BK481 0
    have hfz34_1 := bfz BK481 1
    try go_wp2
    refine bodyPost_ret (results_ct rfl _ _ gb481 38 #[.string t485, .slice (some ad494) t486.length co11] (0, 0) _ rfl (zp BK481) Try.underlying38 rfl (by kernel_rfl)) rfl ?_
    exact ⟨_, zw, by (with_reducible repeat (first | apply Kd.Q_alloc | apply Kd.Q_drewN | apply Kd.Q_drew)); exact Kd.Q_mono (Kd.Q_far (p := ⟨gb481, 1, none⟩) (Kd.Q_far (p := ⟨gb481, 0, none⟩) (Kd.Q_types HO_490001.out BK481.out (by decide)) (fun _ hk => hk.2) (.string t485)) (fun _ hk => hk.2) (.slice (some ad494) t486.length co11)) (fun _ hk => trivial), (zb HB)⟩
/-! ### impl_within: function 53 -/
def impl_within.f (a0 : Int) (a1 : Int) (a2 : Int) : Option (Bool) := if a0 ≥ a1 then (some (decide (a0 ≤ a2))) else (some false)
set_option maxHeartbeats 8000000 in
set_option maxRecDepth 100000 in
theorem impl_within.calls (a0 : Int) (a1 : Int) (a2 : Int) (r : Bool) (w : World) (h : impl_within.f a0 a1 a2 = some r) :
 Calls Try.prog 53 #[.int .i64 a0, .int .i64 a1, .int .i64 a2] w fun e w' => e = .returned (.bool r) ∧ Drawn0 w w' := by
 have H : (if a0 ≥ a1 then (some (decide (a0 ≤ a2))) else (some false)) = some r := h
 clear h
 by_cases c4 : a0 ≥ a1
 · rw [if_pos c4] at H
   have c4b0 : decide (a1 ≤ a0) = true := decide_eq_true c4
   clear c4
   obtain rfl := Option.some.inj H
   go_enter Try.func53, Try.ntmps53
   go_wp2
   go_ret
   exact ⟨by first | rfl | (simp; done) | (simp [*]; done), by repeat (first | exact Drawn0.refl _ | apply Drawn0.step)⟩
 rw [if_neg c4] at H
 have c4b0 : decide (a1 ≤ a0) = false := decide_eq_false c4
 clear c4
 obtain rfl := Option.some.inj H
 go_enter Try.func53, Try.ntmps53
 go_wp2
 go_ret
 exact ⟨by first | rfl | (simp; done) | (simp [*]; done), by repeat (first | exact Drawn0.refl _ | apply Drawn0.step)⟩
/-! ### impl_isName: function 54 -/
def impl_isName.f (a0 : ByteArray) : Option (Bool) := if a0.toList = ([65] : List UInt8) then (some true) else (if a0.toList = ([66] : List UInt8) then (some true) else (if a0.toList = ([67] : List UInt8) then (some true) else (some (a0.toList == ([68] : List UInt8)))))
set_option maxHeartbeats 8000000 in
set_option maxRecDepth 100000 in
theorem impl_isName.calls (a0 : ByteArray) (r : Bool) (w : World) (h : impl_isName.f a0 = some r) :
 Calls Try.prog 54 #[.string a0] w fun e w' => e = .returned (.bool r) ∧ Drawn0 w w' := by
 have H : (if a0.toList = ([65] : List UInt8) then (some true) else (if a0.toList = ([66] : List UInt8) then (some true) else (if a0.toList = ([67] : List UInt8) then (some true) else (some (a0.toList == ([68] : List UInt8)))))) = some r := h
 clear h
 by_cases c2 : a0.toList = ([65] : List UInt8)
 · rw [if_pos c2] at H
   have c2b0 : (a0.toList == ([65] : List UInt8)) = true := beq_iff_eq.mpr c2
   have c2b1 : (a0.toList != ([65] : List UInt8)) = false := bne_eq_false_iff_eq.mpr c2
   clear c2
   obtain rfl := Option.some.inj H
   go_enter Try.func54, Try.ntmps54
   go_wp2
   go_ret
   exact ⟨by first | rfl | (simp; done) | (simp [*]; done), by repeat (first | exact Drawn0.refl _ | apply Drawn0.step)⟩
 rw [if_neg c2] at H
 have c2b0 : (a0.toList == ([65] : List UInt8)) = false := beq_eq_false_iff_ne.mpr c2
 have c2b1 : (a0.toList != ([65] : List UInt8)) = true := bne_iff_ne.mpr c2
 by_cases c3 : a0.toList = ([66] : List UInt8)
 · rw [if_pos c3] at H
   have c3b0 : (a0.toList == ([66] : List UInt8)) = true := beq_iff_eq.mpr c3
   have c3b1 : (a0.toList != ([66] : List UInt8)) = false := bne_eq_false_iff_eq.mpr c3
   clear c3
   obtain rfl := Option.some.inj H
   go_enter Try.func54, Try.ntmps54
   go_wp2
   go_ret
   exact ⟨by first | rfl | (simp; done) | (simp [*]; done), by repeat (first | exact Drawn0.refl _ | apply Drawn0.step)⟩
 rw [if_neg c3] at H
 have c3b0 : (a0.toList == ([66] : List UInt8)) = false := beq_eq_false_iff_ne.mpr c3
 have c3b1 : (a0.toList != ([66] : List UInt8)) = true := bne_iff_ne.mpr c3
 by_cases c4 : a0.toList = ([67] : List UInt8)
 · rw [if_pos c4] at H
   have c4b0 : (a0.toList == ([67] : List UInt8)) = true := beq_iff_eq.mpr c4
   have c4b1 : (a0.toList != ([67] : List UInt8)) = false := bne_eq_false_iff_eq.mpr c4
   clear c4
   obtain rfl := Option.some.inj H
   go_enter Try.func54, Try.ntmps54
   go_wp2
   go_ret
   exact ⟨by first | rfl | (simp; done) | (simp [*]; done), by repeat (first | exact Drawn0.refl _ | apply Drawn0.step)⟩
 rw [if_neg c4] at H
 have c4b0 : (a0.toList == ([67] : List UInt8)) = false := beq_eq_false_iff_ne.mpr c4
 have c4b1 : (a0.toList != ([67] : List UInt8)) = true := bne_iff_ne.mpr c4
 obtain rfl := Option.some.inj H
 go_enter Try.func54, Try.ntmps54
 go_wp2
 go_ret
 exact ⟨by first | rfl | (simp; done) | (simp [*]; done), by repeat (first | exact Drawn0.refl _ | apply Drawn0.step)⟩
/-! ### impl_VolOk: function 20 -/
def impl_VolOk.l0 : Nat → List Int → Int → Int → ByteArray → List Int → Option (Bool)
 | 0, _, _, _, _, _ => none
 | k + 1, x6, x7, x8, x498000, x498001 => if x8 < x7 then (if 0 ≤ x8 then (if x8 < (x6.length : Int) then ((impl_within.f (rd x6 x8) 0 8).bind fun t499 => (if t499 = true then (impl_VolOk.l0 k x6 x7 (wrap64 (x8 + 1)) x498000 x498001) else (some false))) else (none)) else (none)) else ((impl_isName.f x498000).bind fun t500 => (if t500 = true then ((impl_within.f (x498001.length : Int) 1 6).bind fun t501 => (some t501)) else (some false)))
def impl_VolOk.f (k : Nat) (a0_0 : ByteArray) (l0_1 : List Int) : Option (Bool) := impl_VolOk.l0 k l0_1 (l0_1.length : Int) 0 a0_0 l0_1
theorem impl_VolOk.mono_l : ∀ k, (∀ y0 y1 y2 y3 y4, LeO (impl_VolOk.l0 k y0 y1 y2 y3 y4) (impl_VolOk.l0 (k + 1) y0 y1 y2 y3 y4))
 | 0 => fun _ _ _ _ _ r h => by simp [impl_VolOk.l0] at h
 | k + 1 => by
  have ih0 := impl_VolOk.mono_l k
  intro y0 y1 y2 y3 y4
  unfold impl_VolOk.l0
  exact mo1 ih0
theorem impl_VolOk.mono : ∀ a0 a1 k, LeO (impl_VolOk.f k a0 a1) (impl_VolOk.f (k + 1) a0 a1) := by
 intro a0 a1 k
 have ih0 := impl_VolOk.mono_l k
 unfold impl_VolOk.f
 exact mo1 ih0
set_option maxHeartbeats 8000000 in
set_option maxRecDepth 100000 in
theorem impl_VolOk.calls (k : Nat) (a0_0 : ByteArray) (A0_1 : Option Addr) (c0_1 : Nat) (l0_1 : List Int) (r : Bool) (w : World) (hr0_1 : Kd.C (Kd.int .i64) w A0_1 l0_1.length l0_1) (hc0_1 : l0_1.length ≤ c0_1) (h : impl_VolOk.f k a0_0 l0_1 = some r) :
 Calls Try.prog 20 #[.agg #[.string a0_0, .slice A0_1 l0_1.length c0_1]] w fun e w' => e = .returned (.bool r) ∧ Below w.heap.size w w' := by
 have hu38 := Try.underlying38
 have HR0_1 := am hr0_1
 have HC0_1 := am hc0_1
 clear hr0_1 hc0_1
 have HB := am (Below.refl w.heap.size w)
 have H : (impl_VolOk.l0 k l0_1 (l0_1.length : Int) 0 a0_0 l0_1) = some r := h
 clear h
 have H' := am H
 clear H
 go_enter Try.func20, Try.ntmps20
 go_wp2_with (first | ((with_reducible refine gate_dst (N := 1) rfl ?_); (try (refine gate_guard (by rfl) ?_; dsimp only)); refine bx 38 #[.string a0_0, .slice A0_1 l0_1.length c0_1] ?_; intro gb497 hg w2 hbox hb; have BK497 := am (hbox); have GW497 := am (zn hg (zb HB)); have GE497 := am (zn hg (zb HB)); replace HB := am (below_step (zb HB) hb); clear hb hbox hg; have hcz3_0 := ce0 BK497; have hcz3_1 := ce1 BK497; have hfz3_0 := bfz BK497 0; have hfz3_1 := bfz BK497 1))
 go_loopg [8] k (fun kq v8 w' => ∃ (x8_1 : Int), v8 = .int .i64 x8_1 ∧ Aside0 (impl_VolOk.l0 kq l0_1 (l0_1.length : Int) x8_1 a0_0 l0_1 = some r) ∧ Aside0 (kq ≤ k) ∧ Aside0 (w'.heap[gb497]? = some (.cells #[.string a0_0, (.slice A0_1 l0_1.length c0_1)] 38 (0, 0))) ∧ Aside0 (Below w.heap.size w w'))
 case atStart => exact ⟨(0), ze, H', ⟨Nat.le_refl _⟩, ⟨zk BK497⟩, ⟨zb HB⟩⟩
 case round =>
  clear H'
  try clear c2
  try clear p2
  try clear hcz3_0
  try clear hcz3_1
  try clear hfz3_0
  try clear hfz3_1
  obtain ⟨x8_1, rfl, HA, HK1, BK497, HB⟩ := hrel
  cases gk with
  | zero => exact absurd HA.out (by simp [impl_VolOk.l0])
  | succ k1 =>
   have H := HA.out
   clear HA
   simp only [impl_VolOk.l0] at H
   by_cases c4 : x8_1 < (l0_1.length : Int)
   rotate_left
   · rw [if_neg c4] at H
     have c4b0 : decide (x8_1 < (l0_1.length : Int)) = false := decide_eq_false c4
     clear c4
     replace H := obs H
     obtain ⟨t500, A90, H⟩ := H
     replace H : (if t500 = true then ((impl_within.f (l0_1.length : Int) 1 6).bind fun t501 => (some t501)) else (some false)) = some r := H
     have A9 := am A90
     clear A90
     by_cases c10 : t500 = true
     rotate_left
     · replace c10 := Bool.eq_false_iff.mpr c10
       subst c10
       have H1 : (some false) = some r := by rw [if_neg (show ¬ (false = true) by decide)] at H; exact H
       clear H
       have H := H1
       clear H1
       obtain rfl := Option.some.inj H
       have hcz13_0 := ce0 BK497
       have hcz13_1 := ce1 BK497
       have hfz13_0 := bfz BK497 0
       have hfz13_1 := bfz BK497 1
       go_wp2_with (first | ((with_reducible refine gate_callee (f := 54) rfl ?_); refine gl Try.func54 18 #[.string a0_0] rfl rfl rfl ?_; (with_reducible refine (impl_isName.calls a0_0 false _ A9.out).mono ?_); rintro e w' ⟨rfl, ⟨nd, rfl⟩⟩; refine ⟨_, rfl, ?_⟩))
       go_ret
       exact ⟨zv, (zb HB)⟩
     subst c10
     have H1 : ((impl_within.f (l0_1.length : Int) 1 6).bind fun t501 => (some t501)) = some r := by rw [if_pos rfl] at H; exact H
     clear H
     have H := H1
     clear H1
     replace H := obs H
     obtain ⟨t501, A110, H⟩ := H
     replace H : (some t501) = some r := H
     have A11 := am A110
     clear A110
     obtain rfl := Option.some.inj H
     have hcz12_0 := ce0 BK497
     have hcz12_1 := ce1 BK497
     have hfz12_0 := bfz BK497 0
     have hfz12_1 := bfz BK497 1
     go_wp2_with (first | ((with_reducible refine gate_callee (f := 54) rfl ?_); refine gl Try.func54 18 #[.string a0_0] rfl rfl rfl ?_; (with_reducible refine (impl_isName.calls a0_0 true _ A9.out).mono ?_); rintro e w' ⟨rfl, ⟨nd, rfl⟩⟩; refine ⟨_, rfl, ?_⟩) | (go_at_call 53; (with_reducible refine (impl_within.calls (l0_1.length : Int) 1 6 t501 _ A11.out).mono ?_); rintro e w' ⟨rfl, ⟨nd, rfl⟩⟩))
     go_ret
     exact ⟨zv, (zb HB)⟩
   rw [if_pos c4] at H
   have c4b0 : decide (x8_1 < (l0_1.length : Int)) = true := decide_eq_true c4
   clear c4
   by_cases c5 : 0 ≤ x8_1
   rotate_left
   · rw [if_neg c5] at H
     exact absurd H (by simp)
   rw [if_pos c5] at H
   have c5b0 : decide (0 ≤ x8_1) = true := decide_eq_true c5
   clear c5
   by_cases c6 : x8_1 < (l0_1.length : Int)
   rotate_left
   · rw [if_neg c6] at H
     exact absurd H (by simp)
   rw [if_pos c6] at H
   have c6b0 : decide (x8_1 < (l0_1.length : Int)) = true := decide_eq_true c6
   clear c6
   replace H := obs H
   obtain ⟨t499, A70, H⟩ := H
   replace H : (if t499 = true then (impl_VolOk.l0 k1 l0_1 (l0_1.length : Int) (wrap64 (x8_1 + 1)) a0_0 l0_1) else (some false)) = some r := H
   have A7 := am A70
   clear A70
   by_cases c8 : t499 = true
   · subst c8
     have H1 : (impl_VolOk.l0 k1 l0_1 (l0_1.length : Int) (wrap64 (x8_1 + 1)) a0_0 l0_1) = some r := by rw [if_pos rfl] at H; exact H
     clear H
     have H := H1
     clear H1
     have H' := am H
     clear H
     have p498 : 0 ≤ (x8_1 : Int) := of_decide_eq_true zl
     have q498 : x8_1 < (l0_1.length : Int) := of_decide_eq_true zl
     obtain ⟨ad498, e498, hx498_0⟩ := Kd.at_int HR0_1.out x8_1 p498 q498
     cases e498
     replace hx498_0 := hcx HB hx498_0
     replace p498 := eq_true p498
     replace q498 := eq_true q498
     go_wp2_with (first | ((with_reducible refine gate_callee (f := 53) rfl ?_); refine gl Try.func53 13 #[.int .i64 (rd l0_1 x8_1), .int .i64 0, .int .i64 8] rfl rfl rfl ?_; (with_reducible refine (impl_within.calls (rd l0_1 x8_1) 0 8 true _ A7.out).mono ?_); rintro e w' ⟨rfl, ⟨nd, rfl⟩⟩; refine ⟨_, rfl, ?_⟩))
     go_roundg k1
     case measure => have := HK1.out; omega
     case rel => exact ⟨(wrap64 (x8_1 + 1)), ze, H', ⟨by have := HK1.out; omega⟩, ⟨zk BK497⟩, ⟨zb HB⟩⟩
   replace c8 := Bool.eq_false_iff.mpr c8
   subst c8
   have H1 : (some false) = some r := by rw [if_neg (show ¬ (false = true) by decide)] at H; exact H
   clear H
   have H := H1
   clear H1
   obtain rfl := Option.some.inj H
   have p498 : 0 ≤ (x8_1 : Int) := of_decide_eq_true zl
   have q498 : x8_1 < (l0_1.length : Int) := of_decide_eq_true zl
   obtain ⟨ad498, e498, hx498_0⟩ := Kd.at_int HR0_1.out x8_1 p498 q498
   cases e498
   replace hx498_0 := hcx HB hx498_0
   replace p498 := eq_true p498
   replace q498 := eq_true q498
   go_wp2_with (first | ((with_reducible refine gate_callee (f := 53) rfl ?_); refine gl Try.func53 13 #[.int .i64 (rd l0_1 x8_1), .int .i64 0, .int .i64 8] rfl rfl rfl ?_; (with_reducible refine (impl_within.calls (rd l0_1 x8_1) 0 8 false _ A7.out).mono ?_); rintro e w' ⟨rfl, ⟨nd, rfl⟩⟩; refine ⟨_, rfl, ?_⟩))
   go_ret
   exact ⟨zv, (zb HB)⟩
end Go.Proofs.Ytooamacekmjpaaa.PFnVolCount
