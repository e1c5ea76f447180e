/- The walk: each function that the law comes to as a plain Lean function, and a proof that the Go code answers so. Written by this session's program over the kit's printer. -/
import Derived.Test.YtooamacekmjpaaaZ
import Derived.Test.YtooamacekmjpaaaQFnPoolOnce0
import Derived.Test.YtooamacekmjpaaaQFnPoolOnce6
import Derived.Test.YtooamacekmjpaaaQFnPoolOnce16
namespace Go.Proofs.Ytooamacekmjpaaa.PFnPoolOnce
open Go.RowKit Go.Proofs.YtooamacekmjpaaaW.PrintWords Go.Proofs.YtooamacekmjpaaaW.PrintLast Go.Proofs.YtooamacekmjpaaaW.PrintMore
attribute [local go_sem] max2_int min2_int max_two min_two max_three min_three max_four min_four   -- for this text's walks alone
set_option linter.unusedVariables false
set_option linter.unusedSimpArgs false
/-! ### impl_PoolRead: function 23 -/
def impl_PoolRead.j0 : Nat → Int → Int → Bool → List (S55) → List (S38) → Option (ByteArray × Bool)
 | 0, _, _, _, _, _ => none
 | k + 1, x2, x8, x20, x514000, x514001 => if x20 = true then (some ((⟨#[]⟩ : ByteArray), false)) else (if 0 ≤ x8 then (if x8 < (x514001.length : Int) then (if 0 ≤ x2 then (if x2 < (((rd_T38 x514001 x8).f1).length : Int) then (if (rd ((rd_T38 x514001 x8).f1) x2) > 0 then (if 0 ≤ (wrap64 ((rd ((rd_T38 x514001 x8).f1) x2) - 1)) then (if (wrap64 ((rd ((rd_T38 x514001 x8).f1) x2) - 1)) < (x514000.length : Int) then (some ((rd_T55 x514000 (wrap64 ((rd ((rd_T38 x514001 x8).f1) x2) - 1))).f0, true)) else (none)) else (none)) else (some ((⟨#[]⟩ : ByteArray), true))) else (none)) else (none)) else (none)) else (none))
def impl_PoolRead.f (k : Nat) (l0_0 : List (S55)) (l0_1 : List (S38)) (a1 : ByteArray) (a2 : Int) : Option (ByteArray × Bool) := (impl_Pool_hasBlock.f l0_0 l0_1 a1 a2).bind fun t514 => (if t514 < 0 then (impl_PoolRead.j0 k a2 t514 true l0_0 l0_1) else ((impl_PoolOk.f k l0_0 l0_1).bind fun t515 => (impl_PoolRead.j0 k a2 t514 (!t515) l0_0 l0_1)))
theorem impl_PoolRead.mono_l : ∀ k, (∀ y0 y1 y2 y3 y4, LeO (impl_PoolRead.j0 k y0 y1 y2 y3 y4) (impl_PoolRead.j0 (k + 1) y0 y1 y2 y3 y4))
 | 0 => fun _ _ _ _ _ r h => by simp [impl_PoolRead.j0] at h
 | k + 1 => by
  have ih0 := impl_PoolRead.mono_l k
  intro y0 y1 y2 y3 y4
  unfold impl_PoolRead.j0
  exact mo2 ih0 @impl_PoolOk.mono
theorem impl_PoolRead.mono : ∀ a0 a1 a2 a3 k, LeO (impl_PoolRead.f k a0 a1 a2 a3) (impl_PoolRead.f (k + 1) a0 a1 a2 a3) := by
 intro a0 a1 a2 a3 k
 have ih0 := impl_PoolRead.mono_l k
 unfold impl_PoolRead.f
 exact mo2 ih0 @impl_PoolOk.mono
set_option maxHeartbeats 8000000 in
set_option maxRecDepth 100000 in
theorem impl_PoolRead.calls (k : Nat) (A0_0 : Option Addr) (c0_0 : Nat) (l0_0 : List (S55)) (A0_1 : Option Addr) (c0_1 : Nat) (l0_1 : List (S38)) (a1 : ByteArray) (a2 : Int) (r1 : ByteArray) (r2 : Bool) (w : World) (hr0_0 : Kd.C k55 w A0_0 l0_0.length l0_0) (hc0_0 : l0_0.length ≤ c0_0) (hr0_1 : Kd.C k38 w A0_1 l0_1.length l0_1) (hc0_1 : l0_1.length ≤ c0_1) (h : impl_PoolRead.f k l0_0 l0_1 a1 a2 = some (r1, r2)) :
 Calls Try.prog 23 #[.agg #[.slice A0_0 l0_0.length c0_0, .slice A0_1 l0_1.length c0_1], .string a1, .int .i64 a2] w fun e w' => e = .returned (.tuple #[.string r1, .bool r2]) ∧ Below w.heap.size w w' := by
 have hu31 := Try.underlying31
 have HR0_0 := am hr0_0
 have HC0_0 := am hc0_0
 clear hr0_0 hc0_0
 have HR0_1 := am hr0_1
 have HC0_1 := am hc0_1
 clear hr0_1 hc0_1
 have HB := am (Below.refl w.heap.size w)
 have H : ((impl_Pool_hasBlock.f l0_0 l0_1 a1 a2).bind fun t514 => (if t514 < 0 then (impl_PoolRead.j0 k a2 t514 true l0_0 l0_1) else ((impl_PoolOk.f k l0_0 l0_1).bind fun t515 => (impl_PoolRead.j0 k a2 t514 (!t515) l0_0 l0_1)))) = some (r1, r2) := h
 clear h
 replace H := obs H
 obtain ⟨t514, A40, H⟩ := H
 replace H : (if t514 < 0 then (impl_PoolRead.j0 k a2 t514 true l0_0 l0_1) else ((impl_PoolOk.f k l0_0 l0_1).bind fun t515 => (impl_PoolRead.j0 k a2 t514 (!t515) l0_0 l0_1))) = some (r1, r2) := H
 have A4 := am A40
 clear A40
 have HC5 := am H
 clear H
 go_enter Try.func23, Try.ntmps23
 go_upto_region 2 with (first | ((with_reducible refine gate_dst (N := 3) rfl ?_); refine bx 31 #[.slice A0_0 l0_0.length c0_0, .slice A0_1 l0_1.length c0_1] ?_; intro gb513 hg w6 hbox hb; have BK513 := am (hbox); have GW513 := am (zn hg (zb HB)); have GE513 := am (zn hg (zb HB)); replace HB := am (below_step (zb HB) hb); clear hb hbox hg; have hcz7_0 := ce0 BK513; have hcz7_1 := ce1 BK513; have hfz7_0 := bfz BK513 0; have hfz7_1 := bfz BK513 1) | ((with_reducible refine gate_callee (f := 58) rfl ?_); refine gl Try.func58 13 #[.agg #[.slice A0_0 l0_0.length c0_0, .slice A0_1 l0_1.length c0_1], .string a1, .int .i64 a2] rfl rfl rfl ?_; (with_reducible refine (impl_Pool_hasBlock.calls _ _ l0_0 _ _ l0_1 a1 a2 t514 _ ?side1 ?side2 ?side3 ?side4 A4.out).mono ?_); (case side1 => exact zc (Kd.C_below HR0_0.out HB.out)); (case side2 => exact HC0_0.out); (case side3 => exact zc (Kd.C_below HR0_1.out HB.out)); (case side4 => exact HC0_1.out); rintro e w8 ⟨rfl, hb⟩; refine ⟨_, rfl, ?_⟩; replace BK513 := am (blk_below (zk BK513) hb); replace HB := am (below_step (zb HB) hb); (try clear hb); (try clear hb2); (try clear hk); (try clear hi)))
 (try simp only [Act.put, List.setIfInBounds_toArray, List.set_cons_zero, List.set_cons_succ])
 go_cut [20] (fun v20 wc => ∃ (kq : Nat) (x20_4 : Bool), v20 = .bool x20_4 ∧ Aside0 (impl_PoolRead.j0 kq a2 t514 x20_4 l0_0 l0_1 = some (r1, r2)) ∧ Aside0 (kq ≤ k) ∧ Aside0 (wc.heap[gb513]? = some (.cells #[(.slice A0_0 l0_0.length c0_0), (.slice A0_1 l0_1.length c0_1)] 31 (0, 0))) ∧ Aside0 (Below w.heap.size w wc))
 case first =>
  have H := HC5.out
  clear HC5
  by_cases c9 : t514 < 0
  · rw [if_pos c9] at H
    have c9b0 : decide (t514 < 0) = true := decide_eq_true c9
    clear c9
    (first | rw [c9b0] | (simp only [i64_w, i32_w]; rw [c9b0]) | skip)
    have H' := am H
    clear H
    go_wp2
    go_meet
    case rel => exact ⟨_, (true), ze, H', ⟨by first | omega | exact Nat.le_refl _⟩, ⟨zk BK513⟩, ⟨zb HB⟩⟩
  rw [if_neg c9] at H
  have c9b0 : decide (t514 < 0) = false := decide_eq_false c9
  clear c9
  (first | rw [c9b0] | (simp only [i64_w, i32_w]; rw [c9b0]) | skip)
  replace H := obs H
  obtain ⟨t515, A100, H⟩ := H
  replace H : (impl_PoolRead.j0 k a2 t514 (!t515) l0_0 l0_1) = some (r1, r2) := H
  have A10 := am A100
  clear A100
  have H' := am H
  clear H
  have hcz11_0 := ce0 BK513
  have hcz11_1 := ce1 BK513
  have hfz11_0 := bfz BK513 0
  have hfz11_1 := bfz BK513 1
  go_wp2_with (first | (go_at_call 17; (with_reducible refine (impl_PoolOk.calls k _ _ l0_0 _ _ l0_1 t515 _ ?side1 ?side2 ?side3 ?side4 A10.out).mono ?_); (case side1 => exact zc (Kd.C_below HR0_0.out HB.out)); (case side2 => exact HC0_0.out); (case side3 => exact zc (Kd.C_below HR0_1.out HB.out)); (case side4 => exact HC0_1.out); rintro e w12 ⟨rfl, hb⟩; replace BK513 := am (blk_below (zk BK513) hb); replace HB := am (below_step (zb HB) hb); (try clear hb); (try clear hb2); (try clear hk); (try clear hi)))
  go_meet
  case rel => exact ⟨_, (!t515), ze, H', ⟨by first | omega | exact Nat.le_refl _⟩, ⟨zk BK513⟩, ⟨zb HB⟩⟩
 clear HC5
 try clear c2
 try clear p2
 try clear c5
 try clear c9
 try clear c9b0
 try clear hcz11_0
 try clear hcz11_1
 try clear hcz7_0
 try clear hcz7_1
 try clear hfz11_0
 try clear hfz11_1
 try clear hfz7_0
 try clear hfz7_1
 obtain ⟨kq, x20_4, rfl, HA, HJ4, BK513, HB⟩ := hcut
 cases kq with
 | zero => exact absurd HA.out (by simp [impl_PoolRead.j0])
 | succ kj4 =>
  have H := HA.out
  clear HA
  simp only [impl_PoolRead.j0] at H
  by_cases c13 : x20_4 = true
  · subst c13
    have H1 : (some ((⟨#[]⟩ : ByteArray), false)) = some (r1, r2) := by rw [if_pos rfl] at H; exact H
    clear H
    have H := H1
    clear H1
    simp only [Option.some.injEq, Prod.mk.injEq] at H
    obtain ⟨rfl, rfl⟩ := H
    go_wp2
    go_ret2
    exact ⟨zv, (zb HB)⟩
  replace c13 := Bool.eq_false_iff.mpr c13
  subst c13
  have H1 : (if 0 ≤ t514 then (if t514 < (l0_1.length : Int) then (if 0 ≤ a2 then (if a2 < (((rd_T38 l0_1 t514).f1).length : Int) then (if (rd ((rd_T38 l0_1 t514).f1) a2) > 0 then (if 0 ≤ (wrap64 ((rd ((rd_T38 l0_1 t514).f1) a2) - 1)) then (if (wrap64 ((rd ((rd_T38 l0_1 t514).f1) a2) - 1)) < (l0_0.length : Int) then (some ((rd_T55 l0_0 (wrap64 ((rd ((rd_T38 l0_1 t514).f1) a2) - 1))).f0, true)) else (none)) else (none)) else (some ((⟨#[]⟩ : ByteArray), true))) else (none)) else (none)) else (none)) else (none)) = some (r1, r2) := by rw [if_neg (show ¬ (false = true) by decide)] at H; exact H
  clear H
  have H := H1
  clear H1
  by_cases c14 : 0 ≤ t514
  rotate_left
  · rw [if_neg c14] at H
    exact absurd H (by simp)
  rw [if_pos c14] at H
  have c14b0 : decide (0 ≤ t514) = true := decide_eq_true c14
  clear c14
  by_cases c15 : t514 < (l0_1.length : Int)
  rotate_left
  · rw [if_neg c15] at H
    exact absurd H (by simp)
  rw [if_pos c15] at H
  have c15b0 : decide (t514 < (l0_1.length : Int)) = true := decide_eq_true c15
  clear c15
  by_cases c16 : 0 ≤ a2
  rotate_left
  · rw [if_neg c16] at H
    exact absurd H (by simp)
  rw [if_pos c16] at H
  have c16b0 : decide (0 ≤ a2) = true := decide_eq_true c16
  clear c16
  by_cases c17 : a2 < (((rd_T38 l0_1 t514).f1).length : Int)
  rotate_left
  · rw [if_neg c17] at H
    exact absurd H (by simp)
  rw [if_pos c17] at H
  have c17b0 : decide (a2 < (((rd_T38 l0_1 t514).f1).length : Int)) = true := decide_eq_true c17
  clear c17
  by_cases c18 : (rd ((rd_T38 l0_1 t514).f1) a2) > 0
  rotate_left
  · rw [if_neg c18] at H
    have c18b0 : decide (0 < (rd ((rd_T38 l0_1 t514).f1) a2)) = false := decide_eq_false c18
    clear c18
    simp only [Option.some.injEq, Prod.mk.injEq] at H
    obtain ⟨rfl, rfl⟩ := H
    have hcz23_0 := ce0 BK513
    have hcz23_1 := ce1 BK513
    have hfz23_0 := bfz BK513 0
    have hfz23_1 := bfz BK513 1
    have p516 : 0 ≤ (t514 : Int) := of_decide_eq_true zl
    have q516 : t514 < (l0_1.length : Int) := of_decide_eq_true zl
    obtain ⟨ad516, A516_1, c516_1, e516, hx516_0, hx516_1, hl516_1, hi516_1⟩ := at_T38 HR0_1.out t514 p516 q516
    cases e516
    replace hx516_0 := hcx HB hx516_0
    replace hx516_1 := hcx HB hx516_1
    have HR516_1 := am hi516_1
    have HC516_1 := am hl516_1
    clear hi516_1 hl516_1
    replace p516 := eq_true p516
    replace q516 := eq_true q516
    have p517 : 0 ≤ (a2 : Int) := of_decide_eq_true zl
    have q517 : a2 < (((rd_T38 l0_1 t514).f1).length : Int) := of_decide_eq_true zl
    obtain ⟨ad517, e517, hx517_0⟩ := Kd.at_int HR516_1.out a2 p517 q517
    cases e517
    replace hx517_0 := hcx HB hx517_0
    replace p517 := eq_true p517
    replace q517 := eq_true q517
    go_wp2
    go_ret2
    exact ⟨zv, (zb HB)⟩
  rw [if_pos c18] at H
  have c18b0 : decide (0 < (rd ((rd_T38 l0_1 t514).f1) a2)) = true := decide_eq_true c18
  clear c18
  obtain ⟨ji19, hji19⟩ : ∃ j_ : Int, (wrap64 ((rd ((rd_T38 l0_1 t514).f1) a2) - 1)) = j_ := ⟨_, rfl⟩
  replace H : (if 0 ≤ (ji19) then (if (ji19) < (l0_0.length : Int) then (some ((rd_T55 l0_0 (ji19)).f0, true)) else (none)) else (none)) = some (r1, r2) := by first | (rw [hji19] at H; exact H) | (simp only [hji19] at H ⊢; exact H)
  have hji19w : (IntKind.i64.wrap ((rd ((rd_T38 l0_1 t514).f1) a2) - 1)) = ji19 := (i64_w _).trans hji19
  by_cases c20 : 0 ≤ (ji19)
  rotate_left
  · rw [if_neg c20] at H
    exact absurd H (by simp)
  rw [if_pos c20] at H
  have c20b0 : decide (0 ≤ (ji19)) = true := decide_eq_true c20
  clear c20
  by_cases c21 : (ji19) < (l0_0.length : Int)
  rotate_left
  · rw [if_neg c21] at H
    exact absurd H (by simp)
  rw [if_pos c21] at H
  have c21b0 : decide ((ji19) < (l0_0.length : Int)) = true := decide_eq_true c21
  clear c21
  simp only [Option.some.injEq, Prod.mk.injEq] at H
  obtain ⟨rfl, rfl⟩ := H
  have hcz22_0 := ce0 BK513
  have hcz22_1 := ce1 BK513
  have hfz22_0 := bfz BK513 0
  have hfz22_1 := bfz BK513 1
  have p516 : 0 ≤ (t514 : Int) := of_decide_eq_true zl
  have q516 : t514 < (l0_1.length : Int) := of_decide_eq_true zl
  obtain ⟨ad516, A516_1, c516_1, e516, hx516_0, hx516_1, hl516_1, hi516_1⟩ := at_T38 HR0_1.out t514 p516 q516
  cases e516
  replace hx516_0 := hcx HB hx516_0
  replace hx516_1 := hcx HB hx516_1
  have HR516_1 := am hi516_1
  have HC516_1 := am hl516_1
  clear hi516_1 hl516_1
  replace p516 := eq_true p516
  replace q516 := eq_true q516
  have p517 : 0 ≤ (a2 : Int) := of_decide_eq_true zl
  have q517 : a2 < (((rd_T38 l0_1 t514).f1).length : Int) := of_decide_eq_true zl
  obtain ⟨ad517, e517, hx517_0⟩ := Kd.at_int HR516_1.out a2 p517 q517
  cases e517
  replace hx517_0 := hcx HB hx517_0
  replace p517 := eq_true p517
  replace q517 := eq_true q517
  have p518 : 0 ≤ ((ji19) : Int) := of_decide_eq_true zl
  have q518 : (ji19) < (l0_0.length : Int) := of_decide_eq_true zl
  obtain ⟨ad518, e518, hx518_0, hx518_1⟩ := at_T55 HR0_0.out (ji19) p518 q518
  cases e518
  replace hx518_0 := hcx HB hx518_0
  replace hx518_1 := hcx HB hx518_1
  replace p518 := eq_true p518
  replace q518 := eq_true q518
  go_wp2
  go_ret2
  exact ⟨by first | rfl | (simp [errW_none, errW_some] <;> rfl) | (simp only [← hji19]; first | rfl | (simp [errW_none, errW_some] <;> rfl)) | (simp [*, errW_none, errW_some] <;> rfl), (zb HB)⟩
/-! ### laws_lgKinds: function 36 -/
mutual
def laws_lgKinds.l0 : Nat → List ByteArray → Int → List (S55) → List (S38) → Option (Int)
 | 0, _, _, _, _ => none
 | k + 1, x3, x4, x520000, x520001 => if x4 < (x520001.length : Int) then (laws_lgKinds.l1 k x3 x4 0 x520000 x520001) else (some (x3.length : Int))
def laws_lgKinds.l1 : Nat → List ByteArray → Int → Int → List (S55) → List (S38) → Option (Int)
 | 0, _, _, _, _, _ => none
 | k + 1, x3, x4, x5, x520000, x520001 => if 0 ≤ x4 then (if x4 < (x520001.length : Int) then (if x5 < (((rd_T38 x520001 x4).f1).length : Int) then ((impl_PoolRead.f k x520000 x520001 ((rd_T38 x520001 x4).f0) x5).bind fun bt525 => (laws_lgKinds.l2 k x3 x4 x5 bt525.1 (bt525.1.toList == ([] : List UInt8)) 0 x520000 x520001)) else (laws_lgKinds.l0 k x3 (wrap64 (x4 + 1)) x520000 x520001)) else (none)) else (none)
def laws_lgKinds.l2 : Nat → List ByteArray → Int → Int → ByteArray → Bool → Int → List (S55) → List (S38) → Option (Int)
 | 0, _, _, _, _, _, _, _, _ => none
 | k + 1, x3, x4, x5, x6, x8, x9, x520000, x520001 => if x9 < (x3.length : Int) then (if x8 = true then (laws_lgKinds.l2 k x3 x4 x5 x6 true (wrap64 (x9 + 1)) x520000 x520001) else (if 0 ≤ x9 then (laws_lgKinds.l2 k x3 x4 x5 x6 ((rdOf ByteArray.empty x3 x9).toList == x6.toList) (wrap64 (x9 + 1)) x520000 x520001) else (none))) else (if x8 = true then (laws_lgKinds.l1 k x3 x4 (wrap64 (x5 + 1)) x520000 x520001) else (if x3.length < 8796093022208 then (laws_lgKinds.l1 k (x3 ++ [x6]) x4 (wrap64 (x5 + 1)) x520000 x520001) else (none)))
end
def laws_lgKinds.f (k : Nat) (l0_0 : List (S55)) (l0_1 : List (S38)) : Option (Int) := laws_lgKinds.l0 k (([] : List ByteArray)) 0 l0_0 l0_1
theorem laws_lgKinds.mono_l : ∀ k, (∀ y0 y1 y2 y3, LeO (laws_lgKinds.l0 k y0 y1 y2 y3) (laws_lgKinds.l0 (k + 1) y0 y1 y2 y3)) ∧ (∀ y0 y1 y2 y3 y4, LeO (laws_lgKinds.l1 k y0 y1 y2 y3 y4) (laws_lgKinds.l1 (k + 1) y0 y1 y2 y3 y4)) ∧ (∀ y0 y1 y2 y3 y4 y5 y6 y7, LeO (laws_lgKinds.l2 k y0 y1 y2 y3 y4 y5 y6 y7) (laws_lgKinds.l2 (k + 1) y0 y1 y2 y3 y4 y5 y6 y7))
 | 0 => ⟨fun _ _ _ _ r h => by simp [laws_lgKinds.l0] at h, fun _ _ _ _ _ r h => by simp [laws_lgKinds.l1] at h, fun _ _ _ _ _ _ _ _ r h => by simp [laws_lgKinds.l2] at h⟩
 | k + 1 => by
  obtain ⟨ih0, ih1, ih2⟩ := laws_lgKinds.mono_l k
  refine ⟨?_, ?_, ?_⟩
  · intro y0 y1 y2 y3
    unfold laws_lgKinds.l0
    exact mo4 ih0 ih1 ih2 @impl_PoolRead.mono
  · intro y0 y1 y2 y3 y4
    unfold laws_lgKinds.l1
    exact mo4 ih0 ih1 ih2 @impl_PoolRead.mono
  intro y0 y1 y2 y3 y4 y5 y6 y7
  unfold laws_lgKinds.l2
  exact mo4 ih0 ih1 ih2 @impl_PoolRead.mono
theorem laws_lgKinds.mono : ∀ a0 a1 k, LeO (laws_lgKinds.f k a0 a1) (laws_lgKinds.f (k + 1) a0 a1) := by
 intro a0 a1 k
 obtain ⟨ih0, ih1, ih2⟩ := laws_lgKinds.mono_l k
 unfold laws_lgKinds.f
 exact mo4 ih0 ih1 ih2 @impl_PoolRead.mono
def laws_lgKinds.T8 : Bool × List (List Nat × List Nat) := (true, [([], []), ([], []), ([1], [1]), ([], []), ([2, 3], [2, 3]), ([4], [4]), ([5], [5]), ([], []), ([0, 6, 7], [0, 6, 7]), ([8], [8]), ([9], [9]), ([9], [9]), ([10, 8, 0, 1, 2, 3, 4, 5, 6, 7, 8, 9, 10], [10]), ([11, 12, 0, 1, 2, 3, 4, 5, 6, 7, 8, 9, 10, 11, 12], [11])])
def laws_lgKinds.B8 : List Nat := [0, 0, 2, 0, 14, 30, 62, 0, 255, 511, 1023, 1023, 2047, 8191]
theorem laws_lgKinds.tab8 : rtab .any (opsOf Try.f36 8) = laws_lgKinds.T8 := by kernel_rfl
theorem laws_lgKinds.bits8 : waitsOk laws_lgKinds.T8.2 laws_lgKinds.B8 = true := by kernel_rfl
set_option maxHeartbeats 8000000 in
set_option maxRecDepth 100000 in
theorem laws_lgKinds.calls (k : Nat) (A0_0 : Option Addr) (c0_0 : Nat) (l0_0 : List (S55)) (A0_1 : Option Addr) (c0_1 : Nat) (l0_1 : List (S38)) (r : Int) (w : World) (hr0_0 : Kd.C k55 w A0_0 l0_0.length l0_0) (hc0_0 : l0_0.length ≤ c0_0) (hr0_1 : Kd.C k38 w A0_1 l0_1.length l0_1) (hc0_1 : l0_1.length ≤ c0_1) (h : laws_lgKinds.f k l0_0 l0_1 = some r) :
 Calls Try.prog 36 #[.agg #[.slice A0_0 l0_0.length c0_0, .slice A0_1 l0_1.length c0_1]] w fun e w' => e = .returned (.int .i64 r) ∧ Below w.heap.size w w' := by
 have hu31 := Try.underlying31
 have HR0_0 := am hr0_0
 have HC0_0 := am hc0_0
 clear hr0_0 hc0_0
 have HR0_1 := am hr0_1
 have HC0_1 := am hc0_1
 clear hr0_1 hc0_1
 have HB := am (Below.refl w.heap.size w)
 have H : (laws_lgKinds.l0 k (([] : List ByteArray)) 0 l0_0 l0_1) = some r := h
 clear h
 obtain ⟨y520, hy520⟩ : ∃ y_ : List ByteArray, y_ = (([] : List ByteArray)) := ⟨_, rfl⟩
 replace H : (laws_lgKinds.l0 k y520 0 l0_0 l0_1) = some r := hY hy520 H
 have Ny520 := am hy520
 clear hy520
 have H' := am H
 clear H
 go_enter Try.func36, Try.ntmps36
 go_wp2_with (first | ((with_reducible refine gate_dst (N := 1) rfl ?_); refine bx 31 #[.slice A0_0 l0_0.length c0_0, .slice A0_1 l0_1.length c0_1] ?_; intro gb519 hg w2 hbox hb; have BK519 := am (hbox); have GW519 := am (zn hg (zb HB)); have GE519 := am (zn hg (zb HB)); replace HB := am (below_step (zb HB) hb); clear hb hbox hg) | ((with_reducible refine gate_dst (N := 10) rfl ?_); refine Kd.R_lit Kd.string _ 9 ?hg (N := 10) ?hd (xs := ([] : List ByteArray)) (inner := []) (ok := fun _ => True) (okp := fun _ => True) ?hr ?hp (fun _ hk => hk) trivial (Below.refl _ _) (Nat.le_refl _) (by simp) ?_; (case hd => rfl); (case hg => rfl); (case hr => first | (go_simp; done) | (go_simp; rfl)); (case hp => exact (Reps.none _ _)); intro v521 w3 ho4 hb hg_ hnew_; clear hg_ hnew_; (first | rw [← Ny520.out] at ho4 | (simp only [Int.reduceToNat] at ho4; rw [← Ny520.out] at ho4)); have HO522 := am (Kd.R_lower ho4 (below_size (zb HB))); replace BK519 := am (blk_below (zk BK519) hb); replace HB := am (below_step (zb HB) hb); clear hb ho4))
 go_loopg [3, 4] k (fun kq v3 v4 w' => ∃ (x3_1 : List ByteArray) (x4_1 : Int), v4 = .int .i64 x4_1 ∧ Aside0 (laws_lgKinds.l0 kq x3_1 x4_1 l0_0 l0_1 = some r) ∧ Aside0 (kq ≤ k) ∧ Aside0 (Kd.R Kd.string 9 w' w.heap.size (fun _ => True) v3 x3_1) ∧ Aside0 (w'.heap[gb519]? = some (.cells #[(.slice A0_0 l0_0.length c0_0), (.slice A0_1 l0_1.length c0_1)] 31 (0, 0))) ∧ Aside0 (Below w.heap.size w w'))
 case atStart => exact ⟨(y520), (0), ze, H', ⟨Nat.le_refl _⟩, ⟨zr HO522⟩, ⟨zk BK519⟩, ⟨zb HB⟩⟩
 case round =>
  clear H'
  try clear p2
  try clear c3
  obtain ⟨x3_1, x4_1, rfl, HA, HK1, HO_3, BK519, HB⟩ := hrel
  cases gk with
  | zero => exact absurd HA.out (by simp [laws_lgKinds.l0])
  | succ k1 =>
   have H := HA.out
   clear HA
   simp only [laws_lgKinds.l0] at H
   by_cases c5 : x4_1 < (l0_1.length : Int)
   rotate_left
   · rw [if_neg c5] at H
     have c5b0 : decide (x4_1 < (l0_1.length : Int)) = false := decide_eq_false c5
     clear c5
     obtain rfl := Option.some.inj H
     have hcz25_0 := ce0 BK519
     have hcz25_1 := ce1 BK519
     have hfz25_0 := bfz BK519 0
     have hfz25_1 := bfz BK519 1
     obtain ⟨Ao26, co26, eo26⟩ := Kd.R_slice HO_3.out
     subst eo26
     go_wp2
     go_ret
     exact ⟨zv, (zb HB)⟩
   rw [if_pos c5] at H
   have c5b0 : decide (x4_1 < (l0_1.length : Int)) = true := decide_eq_true c5
   clear c5
   have H' := am H
   clear H
   have hcz6_0 := ce0 BK519
   have hcz6_1 := ce1 BK519
   have hfz6_0 := bfz BK519 0
   have hfz6_1 := bfz BK519 1
   go_wp2
   go_loopg [3, 5] k1 (fun kq v3 v5 w' => ∃ (x3_2 : List ByteArray) (x5_2 : Int), v5 = .int .i64 x5_2 ∧ Aside0 (laws_lgKinds.l1 kq x3_2 x4_1 x5_2 l0_0 l0_1 = some r) ∧ Aside0 (kq ≤ k1) ∧ Aside0 (Kd.R Kd.string 9 w' w.heap.size (fun _ => True) v3 x3_2) ∧ Aside0 (w'.heap[gb519]? = some (.cells #[(.slice A0_0 l0_0.length c0_0), (.slice A0_1 l0_1.length c0_1)] 31 (0, 0))) ∧ Aside0 (Below w.heap.size w w'))
   case atStart => exact ⟨(x3_1), (0), ze, H', ⟨Nat.le_refl _⟩, ⟨zr HO_3⟩, ⟨zk BK519⟩, ⟨zb HB⟩⟩
   case round =>
    clear H'
    try clear p2
    try clear c3
    try clear c5
    try clear c5b0
    try clear hcz6_0
    try clear hcz6_1
    try clear hfz6_0
    try clear hfz6_1
    try clear p2
    obtain ⟨x3_2, x5_2, rfl, HA, HK2, HO_3, BK519, HB⟩ := hrel
    cases gk with
    | zero => exact absurd HA.out (by simp [laws_lgKinds.l1])
    | succ k2 =>
     have H := HA.out
     clear HA
     simp only [laws_lgKinds.l1] at H
     by_cases c7 : 0 ≤ x4_1
     rotate_left
     · rw [if_neg c7] at H
       exact absurd H (by simp)
     rw [if_pos c7] at H
     have c7b0 : decide (0 ≤ x4_1) = true := decide_eq_true c7
     clear c7
     by_cases c8 : x4_1 < (l0_1.length : Int)
     rotate_left
     · rw [if_neg c8] at H
       exact absurd H (by simp)
     rw [if_pos c8] at H
     have c8b0 : decide (x4_1 < (l0_1.length : Int)) = true := decide_eq_true c8
     clear c8
     by_cases c9 : x5_2 < (((rd_T38 l0_1 x4_1).f1).length : Int)
     rotate_left
     · rw [if_neg c9] at H
       have c9b0 : decide (x5_2 < (((rd_T38 l0_1 x4_1).f1).length : Int)) = false := decide_eq_false c9
       clear c9
       have H' := am H
       clear H
       have hcz24_0 := ce0 BK519
       have hcz24_1 := ce1 BK519
       have hfz24_0 := bfz BK519 0
       have hfz24_1 := bfz BK519 1
       have p523 : 0 ≤ (x4_1 : Int) := of_decide_eq_true zl
       have q523 : x4_1 < (l0_1.length : Int) := of_decide_eq_true zl
       obtain ⟨ad523, A523_1, c523_1, e523, hx523_0, hx523_1, hl523_1, hi523_1⟩ := at_T38 HR0_1.out x4_1 p523 q523
       cases e523
       replace hx523_0 := hcx HB hx523_0
       replace hx523_1 := hcx HB hx523_1
       have HR523_1 := am hi523_1
       have HC523_1 := am hl523_1
       clear hi523_1 hl523_1
       replace p523 := eq_true p523
       replace q523 := eq_true q523
       go_wp2
       go_roundg k2
       case measure => have := HK1.out; have := HK2.out; omega
       case rel => exact ⟨(x3_2), (wrap64 (x4_1 + 1)), ze, H', ⟨by have := HK1.out; have := HK2.out; omega⟩, ⟨zr HO_3⟩, ⟨zk BK519⟩, ⟨zb HB⟩⟩
     rw [if_pos c9] at H
     have c9b0 : decide (x5_2 < (((rd_T38 l0_1 x4_1).f1).length : Int)) = true := decide_eq_true c9
     clear c9
     replace H := obs H
     obtain ⟨⟨t525, t526⟩, A100, H⟩ := H
     replace H : (laws_lgKinds.l2 k2 x3_2 x4_1 x5_2 t525 (t525.toList == ([] : List UInt8)) 0 l0_0 l0_1) = some r := H
     have A10 := am A100
     clear A100
     have H' := am H
     clear H
     have hcz11_0 := ce0 BK519
     have hcz11_1 := ce1 BK519
     have hfz11_0 := bfz BK519 0
     have hfz11_1 := bfz BK519 1
     have p523 : 0 ≤ (x4_1 : Int) := of_decide_eq_true zl
     have q523 : x4_1 < (l0_1.length : Int) := of_decide_eq_true zl
     obtain ⟨ad523, A523_1, c523_1, e523, hx523_0, hx523_1, hl523_1, hi523_1⟩ := at_T38 HR0_1.out x4_1 p523 q523
     cases e523
     replace hx523_0 := hcx HB hx523_0
     replace hx523_1 := hcx HB hx523_1
     have HR523_1 := am hi523_1
     have HC523_1 := am hl523_1
     clear hi523_1 hl523_1
     replace p523 := eq_true p523
     replace q523 := eq_true q523
     try go_wp2
     replace HO_3 := am (Kd.R_drew HO_3.out)
     replace BK519 := am (blk_drew BK519.out)
     replace HB := am (below_drew1 HB.out)
     have p524 : 0 ≤ (x4_1 : Int) := of_decide_eq_true zl
     have q524 : x4_1 < (l0_1.length : Int) := of_decide_eq_true zl
     obtain ⟨ad524, A524_1, c524_1, e524, hx524_0, hx524_1, hl524_1, hi524_1⟩ := at_T38 HR0_1.out x4_1 p524 q524
     have hw524_1 := hx524_1
     have hw524_0 := hx524_0
     obtain rfl : ad523 = ad524 := (by injection e524)
     replace hx524_0 := hcx HB hx524_0
     replace hx524_1 := hcx HB hx524_1
     have HR524_1 := am hi524_1
     have HC524_1 := am hl524_1
     clear hi524_1 hl524_1
     replace p524 := eq_true p524
     replace q524 := eq_true q524
     refine start_ (n := 14) (S := fun w' => w'.cell? ⟨gb519, 0, none⟩ = some (.slice A0_0 l0_0.length c0_0) ∧ w'.cell? ⟨gb519, 1, none⟩ = some (.slice (some ad523) l0_1.length c0_1) ∧ w'.cell? (ad523.add ((x4_1).toNat * 2)) = some (.string ((rd_T38 l0_1 x4_1).f0)) ∧ w'.cell? ⟨(ad523.add ((x4_1).toNat * 2)).block, (ad523.add ((x4_1).toNat * 2)).off + 1, none⟩ = some (.slice A524_1 ((rd_T38 l0_1 x4_1).f1).length c524_1)) (ds := []) (bs 14 0) (by kernel_rfl) rfl rfl ⟨ce0 BK519, ce1 BK519, (hcx HB hw524_0), (hcx HB hw524_1)⟩ (fun hHeld => ?_); refine with_tabW laws_lgKinds.tab8 laws_lgKinds.bits8 (fun HT_ HW_ => ?_)
     generalize wr.drew = w12 at HO_3 BK519 HB HR524_1 hx524_0 hx524_1 hHeld ⊢
     refine pu 1 31 14 2 rfl rfl ?_
     refine pu 3 33 14 10 rfl rfl ?_
     refine pu 7 37 14 138 rfl rfl ?_
     refine ta4 0 30 14 139 rfl rfl hHeld ?_
     refine ta4 2 32 14 143 rfl rfl hHeld ?_
     refine pu 4 34 14 159 rfl rfl ?_
     refine pu 5 35 14 191 rfl rfl ?_
     refine ta4 6 36 14 255 rfl rfl hHeld ?_
     refine oz 8 14 511 rfl rfl (fun K hK => ?_)
     refine gs Try.func23 #[.agg #[.slice A0_0 l0_0.length c0_0, .slice (some ad523) l0_1.length c0_1], .string ((rd_T38 l0_1 x4_1).f0), .int .i64 x5_2] rfl rfl ?_
     with_reducible refine (impl_PoolRead.calls k2 _ _ l0_0 _ _ l0_1 ((rd_T38 l0_1 x4_1).f0) x5_2 t525 t526 _ ?side1 ?side2 ?side3 ?side4 A10.out).mono ?_
     (case side1 => exact zc (Kd.C_below HR0_0.out HB.out))
     (case side2 => exact HC0_0.out)
     (case side3 => exact zc (Kd.C_below HR0_1.out HB.out))
     (case side4 => exact HC0_1.out)
     rintro e w13 ⟨rfl, hb⟩
     refine ⟨_, rfl, ?_⟩
     replace HO_3 := am (Kd.R_below (zr HO_3) hb)
     replace BK519 := am (blk_below (zk BK519) hb)
     replace HB := am (below_step (zb HB) hb)
     (try clear hb)
     (try clear hb2)
     (try clear hk)
     (try clear hi)
     refine hK.out _ _ ⟨ce0 BK519, ce1 BK519, (hcx HB hw524_0), (hcx HB hw524_1)⟩ (fun hHeld => ?_)
     clear hK K
     refine norm_ (a' := ?_) ?_ ?_
     rotate_left
     · show Act.put _ (some 38) _ = _
       simp only [Act.put, List.setIfInBounds_toArray, List.set_cons_zero, List.set_cons_succ, i64_w, i32_w]
       rfl
     refine pu 9 29 14 1023 rfl rfl ?_
     refine pu 10 39 14 2047 rfl rfl ?_
     refine pu 11 40 14 4095 rfl rfl ?_
     refine pu 12 6 14 8191 rfl rfl ?_
     refine pu 13 7 14 16383 rfl rfl ?_
     refine done_ (done_of HT_.out (by kernel_rfl)) ?_
     try go_wp2
     go_loopg [8, 9] k2 (fun kq v8 v9 w' => ∃ (x8_3 : Bool) (x9_3 : Int), v8 = .bool x8_3 ∧ v9 = .int .i64 x9_3 ∧ Aside0 (laws_lgKinds.l2 kq x3_2 x4_1 x5_2 t525 x8_3 x9_3 l0_0 l0_1 = some r) ∧ Aside0 (kq ≤ k2) ∧ Aside0 (Kd.R Kd.string 9 w' w.heap.size (fun _ => True) u3 x3_2) ∧ Aside0 (w'.heap[gb519]? = some (.cells #[(.slice A0_0 l0_0.length c0_0), (.slice (some ad523) l0_1.length c0_1)] 31 (0, 0))) ∧ Aside0 (Below w.heap.size w w'))
     case atStart => exact ⟨((t525.toList == ([] : List UInt8))), (0), ze, ze, H', ⟨Nat.le_refl _⟩, ⟨zr HO_3⟩, ⟨zk BK519⟩, ⟨zb HB⟩⟩
     case round =>
      clear H'
      try clear c2
      try clear p2
      try clear c3
      try clear c5
      try clear c5b0
      try clear p5
      try clear q5
      try clear hx5
      try clear c7
      try clear c7b0
      try clear c8
      try clear c8b0
      try clear c9
      try clear c9b0
      try clear hcz11_0
      try clear hcz11_1
      try clear hcz6_0
      try clear hcz6_1
      try clear hfz11_0
      try clear hfz11_1
      try clear hfz6_0
      try clear hfz6_1
      try clear hx523_0
      try clear hx523_1
      try clear hx524_0
      try clear hx524_1
      try clear p2
      try clear p523
      try clear p524
      try clear q523
      try clear q524
      obtain ⟨x8_3, x9_3, rfl, rfl, HA, HK3, HO_3, BK519, HB⟩ := hrel
      cases gk with
      | zero => exact absurd HA.out (by simp [laws_lgKinds.l2])
      | succ k3 =>
       have H := HA.out
       clear HA
       simp only [laws_lgKinds.l2] at H
       by_cases c14 : x9_3 < (x3_2.length : Int)
       · rw [if_pos c14] at H
         have c14b0 : decide (x9_3 < (x3_2.length : Int)) = true := decide_eq_true c14
         clear c14
         by_cases c15 : x8_3 = true
         · subst c15
           have H1 : (laws_lgKinds.l2 k3 x3_2 x4_1 x5_2 t525 true (wrap64 (x9_3 + 1)) l0_0 l0_1) = some r := by rw [if_pos rfl] at H; exact H
           clear H
           have H := H1
           clear H1
           have H' := am H
           clear H
           obtain ⟨Ao16, co16, eo16⟩ := Kd.R_slice HO_3.out
           subst eo16
           go_wp2
           go_roundg k3
           case measure => have := HK1.out; have := HK2.out; have := HK3.out; omega
           case rel => exact ⟨(true), (wrap64 (x9_3 + 1)), ze, ze, H', ⟨by have := HK1.out; have := HK2.out; have := HK3.out; omega⟩, ⟨zr HO_3⟩, ⟨zk BK519⟩, ⟨zb HB⟩⟩
         replace c15 := Bool.eq_false_iff.mpr c15
         subst c15
         have H1 : (if 0 ≤ x9_3 then (laws_lgKinds.l2 k3 x3_2 x4_1 x5_2 t525 ((rdOf ByteArray.empty x3_2 x9_3).toList == t525.toList) (wrap64 (x9_3 + 1)) l0_0 l0_1) else (none)) = some r := by rw [if_neg (show ¬ (false = true) by decide)] at H; exact H
         clear H
         have H := H1
         clear H1
         by_cases c17 : 0 ≤ x9_3
         rotate_left
         · rw [if_neg c17] at H
           exact absurd H (by simp)
         rw [if_pos c17] at H
         have c17b0 : decide (0 ≤ x9_3) = true := decide_eq_true c17
         clear c17
         have H' := am H
         clear H
         obtain ⟨Ao18, co18, eo18⟩ := Kd.R_slice HO_3.out
         subst eo18
         have p527 : 0 ≤ (x9_3 : Int) := of_decide_eq_true zl
         have q527 : x9_3 < (x3_2.length : Int) := of_decide_eq_true zl
         obtain ⟨ad527, e527, hx527_0⟩ := Kd.at_string (Kd.R_reads' HO_3.out).2.2 x9_3 p527 q527
         cases e527
         replace p527 := eq_true p527
         replace q527 := eq_true q527
         go_wp2
         go_roundg k3
         case measure => have := HK1.out; have := HK2.out; have := HK3.out; omega
         case rel => exact ⟨(((rdOf ByteArray.empty x3_2 x9_3).toList == t525.toList)), (wrap64 (x9_3 + 1)), ze, ze, H', ⟨by have := HK1.out; have := HK2.out; have := HK3.out; omega⟩, ⟨zr HO_3⟩, ⟨zk BK519⟩, ⟨zb HB⟩⟩
       rw [if_neg c14] at H
       have c14b0 : decide (x9_3 < (x3_2.length : Int)) = false := decide_eq_false c14
       clear c14
       by_cases c19 : x8_3 = true
       · subst c19
         have H1 : (laws_lgKinds.l1 k3 x3_2 x4_1 (wrap64 (x5_2 + 1)) l0_0 l0_1) = some r := by rw [if_pos rfl] at H; exact H
         clear H
         have H := H1
         clear H1
         have H' := am H
         clear H
         obtain ⟨Ao20, co20, eo20⟩ := Kd.R_slice HO_3.out
         subst eo20
         go_wp2
         go_roundg k3
         case measure => have := HK1.out; have := HK2.out; have := HK3.out; omega
         case rel => exact ⟨(x3_2), (wrap64 (x5_2 + 1)), ze, H', ⟨by have := HK1.out; have := HK2.out; have := HK3.out; omega⟩, ⟨zr HO_3⟩, ⟨zk BK519⟩, ⟨zb HB⟩⟩
       replace c19 := Bool.eq_false_iff.mpr c19
       subst c19
       have H1 : (if x3_2.length < 8796093022208 then (laws_lgKinds.l1 k3 (x3_2 ++ [t525]) x4_1 (wrap64 (x5_2 + 1)) l0_0 l0_1) else (none)) = some r := by rw [if_neg (show ¬ (false = true) by decide)] at H; exact H
       clear H
       have H := H1
       clear H1
       by_cases c21 : x3_2.length < 8796093022208
       rotate_left
       · rw [if_neg c21] at H
         exact absurd H (by simp)
       rw [if_pos c21] at H
       have LMc21 := am c21
       clear c21
       obtain ⟨y528, hy528⟩ : ∃ y_ : List ByteArray, y_ = (x3_2 ++ [t525]) := ⟨_, rfl⟩
       replace H : (laws_lgKinds.l1 k3 y528 x4_1 (wrap64 (x5_2 + 1)) l0_0 l0_1) = some r := hY hy528 H
       have Ny528 := am hy528
       clear hy528
       have H' := am H
       clear H
       obtain ⟨Ao22, co22, eo22⟩ := Kd.R_slice HO_3.out
       subst eo22
       go_wp2_with (first | ((with_reducible refine gate_builtin (b := .append) (xs := #[.tmp 60, .tmp 62]) rfl ?_); at_builtin; refine Kd.R_append Kd.string (w0 := w) w.heap.size rfl (.tmp 60) (.tmp 62) 75 9 (.string ⟨#[]⟩) 16 rfl Try.underlying75 info9 rfl (by decide) (by omega) (.slice Ao22 x3_2.length co22) x3_2 t525 [.string t525] (fun _ => True) (fun _ => False) rfl rfl ?aP (fun _ hk => hk.elim) ?aF ?aO ?aB ?aS ?aL ?_; (case aP => exact rfl); (case aB => exact (zb HB)); (case aF => exact (fun _ _ => trivial)); (case aO => exact (zr HO_3)); (case aS => exact (below_size (zb HB))); (case aL => have := LMc21.out; omega); intro v529 w23 ho hb hg hat; rw [← Ny528.out] at ho; replace BK519 := am (blk_grown (zk BK519) hg (Kd.R_ne HO_3.out BK519.out (by decide))); replace HB := am (hb); have HO530 := am (ho); clear HO_3; clear ho hb hg hat))
       go_roundg k3
       case measure => have := HK1.out; have := HK2.out; have := HK3.out; omega
       case rel => exact ⟨(y528), (wrap64 (x5_2 + 1)), ze, H', ⟨by have := HK1.out; have := HK2.out; have := HK3.out; omega⟩, ⟨zr HO530⟩, ⟨zk BK519⟩, ⟨zb HB⟩⟩
end Go.Proofs.Ytooamacekmjpaaa.PFnPoolOnce
