/- The walk: each function that the law comes to as a plain Lean function, and a proof that the Go code answers so. Written by this session's program over the kit's printer. -/
import Derived.Test.YtooamacekmjpaaaZ
import Derived.Test.YtooamacekmjpaaaQFnVolForm0
import Derived.Test.YtooamacekmjpaaaQFnVolForm1
import Derived.Test.YtooamacekmjpaaaQFnVolForm2
namespace Go.Proofs.Ytooamacekmjpaaa.PFnVolForm
open Go.RowKit Go.Proofs.YtooamacekmjpaaaW.PrintWords Go.Proofs.YtooamacekmjpaaaW.PrintLast Go.Proofs.YtooamacekmjpaaaW.PrintMore
attribute [local go_sem] max2_int min2_int max_two min_two max_three min_three max_four min_four   -- for this text's walks alone
set_option linter.unusedVariables false
set_option linter.unusedSimpArgs false
/-! ### spec_l2Put: function 97 -/
def spec_l2Put.f (k : Nat) (l0 : List (S55)) (a1 : ByteArray) : Option ((List (S55)) × Int × Bool) := (spec_l2Find.f k l0 a1).bind fun bt175 => (if bt175.1 = 0 then (some (l0, 0, false)) else (if 0 ≤ (wrap64 (bt175.1 - 1)) then (if (wrap64 (bt175.1 - 1)) < (l0.length : Int) then (if ((rd_T55 l0 (wrap64 (bt175.1 - 1))).f1) ≥ 99 then (some (l0, 0, false)) else (some ((l0.set ((wrap64 (bt175.1 - 1)) : Int).toNat (⟨a1, wrap64 (((rd_T55 l0 (wrap64 (bt175.1 - 1))).f1) + 1)⟩ : S55)), bt175.1, true))) else (none)) else (none)))
theorem spec_l2Put.mono : ∀ a0 a1 k, LeO (spec_l2Put.f k a0 a1) (spec_l2Put.f (k + 1) a0 a1) := by
 intro a0 a1 k
 unfold spec_l2Put.f
 exact mo1 @spec_l2Find.mono
set_option maxHeartbeats 8000000 in
set_option maxRecDepth 100000 in
theorem spec_l2Put.calls (k : Nat) (P0_ : Nat → Prop) (u9000_ : Value) (l0 : List (S55)) (a1 : ByteArray) (r1 : List (S55)) (r2 : Int) (r3 : Bool) (w0 w : World) (hB : Below w0.heap.size w0 w) (ho0 : Kd.R k55 55 w w0.heap.size P0_ u9000_ l0) (h : spec_l2Put.f k l0 a1 = some (r1, r2, r3)) :
 Calls Try.prog 97 #[u9000_, .string a1] w fun e w' => ∃ v0_ : Value, e = .returned (.tuple #[v0_, .int .i64 r2, .bool r3]) ∧ Kd.R k55 55 w' w0.heap.size (fun k_ => (P0_ k_ ∨ w.heap.size ≤ k_)) v0_ r1 ∧ Below w0.heap.size w0 w' ∧ Kept w w' (fun k_ => P0_ k_) := by
 have hu55 := Try.underlying55
 have HO0 := am (show Kd.R k55 55 w w0.heap.size (fun k_ => (P0_ k_ ∨ w.heap.size ≤ k_)) u9000_ l0 from Kd.R_mono ho0 (fun k_ hk => (.inl hk)))
 have HK := am (Kept.refl w (fun k_ => P0_ k_))
 have HW0 := am hB.size
 have HB := am hB
 clear hB
 have H : ((spec_l2Find.f k l0 a1).bind fun bt175 => (if bt175.1 = 0 then (some (l0, 0, false)) else (if 0 ≤ (wrap64 (bt175.1 - 1)) then (if (wrap64 (bt175.1 - 1)) < (l0.length : Int) then (if ((rd_T55 l0 (wrap64 (bt175.1 - 1))).f1) ≥ 99 then (some (l0, 0, false)) else (some ((l0.set ((wrap64 (bt175.1 - 1)) : Int).toNat (⟨a1, wrap64 (((rd_T55 l0 (wrap64 (bt175.1 - 1))).f1) + 1)⟩ : S55)), bt175.1, true))) else (none)) else (none)))) = some (r1, r2, r3) := h
 clear h
 replace H := obs H
 obtain ⟨⟨t175, t176⟩, A30, H⟩ := H
 replace H : (if t175 = 0 then (some (l0, 0, false)) else (if 0 ≤ (wrap64 (t175 - 1)) then (if (wrap64 (t175 - 1)) < (l0.length : Int) then (if ((rd_T55 l0 (wrap64 (t175 - 1))).f1) ≥ 99 then (some (l0, 0, false)) else (some ((l0.set ((wrap64 (t175 - 1)) : Int).toNat (⟨a1, wrap64 (((rd_T55 l0 (wrap64 (t175 - 1))).f1) + 1)⟩ : S55)), t175, true))) else (none)) else (none))) = some (r1, r2, r3) := H
 have A3 := am A30
 clear A30
 by_cases c4 : t175 = 0
 · rw [if_pos c4] at H
   have c4b0 : (t175 == 0) = true := beq_iff_eq.mpr c4
   have c4b1 : (t175 != 0) = false := bne_eq_false_iff_eq.mpr c4
   clear c4
   simp only [Option.some.injEq, Prod.mk.injEq] at H
   obtain ⟨rfl, rfl, rfl⟩ := H
   obtain ⟨Ao5, co5, eo5⟩ := Kd.R_slice HO0.out
   subst eo5
   go_enter Try.func97, Try.ntmps97
   go_wp2_with (first | ((with_reducible refine gate_callee (f := 98) rfl ?_); refine gl Try.func98 12 #[.slice Ao5 l0.length co5, .string a1] rfl rfl rfl ?_; (with_reducible refine (spec_l2Find.calls k _ _ l0 a1 t175 t176 _ ?side1 ?side2 A3.out).mono ?_); (case side1 => exact zc (Kd.R_reads' HO0.out).2.2); (case side2 => exact (Kd.R_reads' HO0.out).2.1); rintro e w' ⟨rfl, ⟨nd, rfl⟩⟩; refine ⟨_, rfl, ?_⟩))
   go_ret3
   exact ⟨_, zw, (zr HO0), (zb HB), (zq HK)⟩
 rw [if_neg c4] at H
 have c4b0 : (t175 == 0) = false := beq_eq_false_iff_ne.mpr c4
 have c4b1 : (t175 != 0) = true := bne_iff_ne.mpr c4
 obtain ⟨ji6, hji6⟩ : ∃ j_ : Int, (wrap64 (t175 - 1)) = j_ := ⟨_, rfl⟩
 replace H : (if 0 ≤ (ji6) then (if (ji6) < (l0.length : Int) then (if ((rd_T55 l0 (ji6)).f1) ≥ 99 then (some (l0, 0, false)) else (some ((l0.set ((ji6) : Int).toNat (⟨a1, wrap64 (((rd_T55 l0 (ji6)).f1) + 1)⟩ : S55)), t175, true))) else (none)) else (none)) = some (r1, r2, r3) := by first | (rw [hji6] at H; exact H) | (simp only [hji6] at H ⊢; exact H)
 (try rw [hji6] at A3)
 have hji6w : (IntKind.i64.wrap (t175 - 1)) = ji6 := (i64_w _).trans hji6
 by_cases c7 : 0 ≤ (ji6)
 rotate_left
 · rw [if_neg c7] at H
   exact absurd H (by simp)
 rw [if_pos c7] at H
 have c7b0 : decide (0 ≤ (ji6)) = true := decide_eq_true c7
 clear c7
 by_cases c8 : (ji6) < (l0.length : Int)
 rotate_left
 · rw [if_neg c8] at H
   exact absurd H (by simp)
 rw [if_pos c8] at H
 have c8b0 : decide ((ji6) < (l0.length : Int)) = true := decide_eq_true c8
 clear c8
 by_cases c9 : ((rd_T55 l0 (ji6)).f1) ≥ 99
 · rw [if_pos c9] at H
   have c9b0 : decide (99 ≤ ((rd_T55 l0 (ji6)).f1)) = true := decide_eq_true c9
   clear c9
   simp only [Option.some.injEq, Prod.mk.injEq] at H
   obtain ⟨rfl, rfl, rfl⟩ := H
   obtain ⟨Ao10, co10, eo10⟩ := Kd.R_slice HO0.out
   subst eo10
   go_enter Try.func97, Try.ntmps97
   go_wp2_with (first | ((with_reducible refine gate_callee (f := 98) rfl ?_); refine gl Try.func98 12 #[.slice Ao10 l0.length co10, .string a1] rfl rfl rfl ?_; (with_reducible refine (spec_l2Find.calls k _ _ l0 a1 t175 t176 _ ?side1 ?side2 A3.out).mono ?_); (case side1 => exact zc (Kd.R_reads' HO0.out).2.2); (case side2 => exact (Kd.R_reads' HO0.out).2.1); rintro e w' ⟨rfl, ⟨nd, rfl⟩⟩; refine ⟨_, rfl, ?_⟩; have p177 : 0 ≤ ((ji6) : Int) := of_decide_eq_true zl; have q177 : (ji6) < (l0.length : Int) := of_decide_eq_true zl; obtain ⟨ad177, e177, hx177_0, hx177_1⟩ := at_T55 (Kd.R_reads' HO0.out).2.2 (ji6) p177 q177; cases e177; replace p177 := eq_true p177; replace q177 := eq_true q177))
   go_ret3
   exact ⟨_, by first | rfl | (simp [errW_none, errW_some] <;> rfl) | (simp only [← hji6]; first | rfl | (simp [errW_none, errW_some] <;> rfl)) | (simp [*, errW_none, errW_some] <;> rfl), (zr HO0), (zb HB), (zq HK)⟩
 rw [if_neg c9] at H
 have c9b0 : decide (99 ≤ ((rd_T55 l0 (ji6)).f1)) = false := decide_eq_false c9
 clear c9
 obtain ⟨y179, hy179⟩ : ∃ y_ : List (S55), y_ = (l0.set ((ji6) : Int).toNat (⟨a1, wrap64 (((rd_T55 l0 (ji6)).f1) + 1)⟩ : S55)) := ⟨_, rfl⟩
 replace H : (some (y179, t175, true)) = some (r1, r2, r3) := hY hy179 H
 have Ny179 := am hy179
 clear hy179
 simp only [Option.some.injEq, Prod.mk.injEq] at H
 obtain ⟨rfl, rfl, rfl⟩ := H
 obtain ⟨Ao12, co12, eo12⟩ := Kd.R_slice HO0.out
 subst eo12
 go_enter Try.func97, Try.ntmps97
 go_wp2_with (first | ((with_reducible refine gate_callee (f := 98) rfl ?_); refine gl Try.func98 12 #[.slice Ao12 l0.length co12, .string a1] rfl rfl rfl ?_; (with_reducible refine (spec_l2Find.calls k _ _ l0 a1 t175 t176 _ ?side1 ?side2 A3.out).mono ?_); (case side1 => exact zc (Kd.R_reads' HO0.out).2.2); (case side2 => exact (Kd.R_reads' HO0.out).2.1); rintro e w' ⟨rfl, ⟨nd, rfl⟩⟩; refine ⟨_, rfl, ?_⟩; (try (rw [drewN_self w]; generalize hq_ : World.drewN w _ = wq_; replace HO0 : Aside0 (Kd.R k55 55 wq_ w0.heap.size (fun k_ => (P0_ k_ ∨ w.heap.size ≤ k_)) (.slice Ao12 l0.length co12) l0) := ⟨by rw [← hq_]; exact (zr HO0)⟩; replace HK : Aside0 (Kept w wq_ (fun k_ => P0_ k_)) := ⟨by rw [← hq_]; exact (zq HK)⟩; replace HB : Aside0 (Below w0.heap.size w0 wq_) := ⟨by rw [← hq_]; exact (zb HB)⟩; clear hq_)); have p177 : 0 ≤ ((ji6) : Int) := of_decide_eq_true zl; have q177 : (ji6) < (l0.length : Int) := of_decide_eq_true zl; obtain ⟨ad177, e177, hx177_0, hx177_1⟩ := at_T55 (Kd.R_reads' HO0.out).2.2 (ji6) p177 q177; cases e177; replace p177 := eq_true p177; replace q177 := eq_true q177; have p178 : 0 ≤ ((ji6) : Int) := of_decide_eq_true zl; have q178 : (ji6) < (l0.length : Int) := of_decide_eq_true zl; obtain ⟨ad178, e178, hx178_0, hx178_1⟩ := at_T55 (Kd.R_reads' HO0.out).2.2 (ji6) p178 q178; obtain rfl : ad177 = ad178 := (by injection e178); replace p178 := eq_true p178; replace q178 := eq_true q178; have p11 : 0 ≤ ((ji6) : Int) := of_decide_eq_true zl; have q11 : ((ji6) : Int) < ((l0.length : Int) : Int) := of_decide_eq_true zl; obtain ⟨go11, co11, eo11, gb11, gl11, cl11, HG11⟩ := Kd.R_form HO0.out (by omega); (first | cases eo11 | (injection eo11 with ea_ en_ ec_; (first | subst ea_ | (injection ea_ with ea_; subst ea_)); subst ec_; clear en_)); have GB11 := am gb11; have GG11 := am HG11; clear gb11 gl11 HG11; have HMgo11 := am (show (P0_ go11 ∨ w.heap.size ≤ go11) from (HO0.out.1 _ rfl)); (first | simp only [add_plain] at hx177_0 | skip); (first | simp only [add_plain] at hx177_1 | skip); (first | simp only [add_plain] at hx178_0 | skip); (first | simp only [add_plain] at hx178_1 | skip); obtain ⟨ce11, hcl11, hM11, hcc11, hfr11⟩ := Kd.R_elem HO0.out z55 ((ji6) : Int) p11 q11; obtain rfl := k55_openM hM11; have hx11_0 : wq_.cell? ⟨go11, ((ji6) : Int).toNat * 2, none⟩ = some (.string ((rd_T55 l0 (ji6)).f0)) := hcc11 0 _ rfl; have hx11_1 : wq_.cell? ⟨go11, ((ji6) : Int).toNat * 2 + 1, none⟩ = some (.int .i64 ((rd_T55 l0 (ji6)).f1)) := hcc11 1 _ rfl; have hf11_0 : wq_.frozen? ⟨go11, ((ji6) : Int).toNat * 2, none⟩ = false := hfr11 0; have hf11_1 : wq_.frozen? ⟨go11, ((ji6) : Int).toNat * 2 + 1, none⟩ = false := hfr11 1; clear hcl11 hcc11 hfr11 hM11; replace p11 := eq_true p11; replace q11 := eq_true q11; have HX13 := am (show Kd.R k55 55 wq_ w0.heap.size (fun k_ => (P0_ k_ ∨ w.heap.size ≤ k_)) (.slice (some ⟨go11, 0, none⟩) l0.length co12) l0 from (zr HO0)); obtain ⟨ce13, hcl13, hM13, hcc13, hfr13⟩ := Kd.R_elem HX13.out z55 ((ji6) : Int) (of_decide_eq_true zl) (by have h_ : ((ji6) : Int) < ((l0.length : Int) : Int) := of_decide_eq_true zl; first | exact h_ | (have e_ := (Kd.R_reads' HO0.out).1; omega) | simpa using h_); obtain rfl := k55_openM hM13; have HP13 := Kd.R_seg HX13.out ((ji6) : Int) (of_decide_eq_true zl) (by have h_ : ((ji6) : Int) < ((l0.length : Int) : Int) := of_decide_eq_true zl; first | exact h_ | (have e_ := (Kd.R_reads' HO0.out).1; omega) | simpa using h_) (seg := [.string a1, .int .i64 (wrap64 (((rd_T55 l0 (ji6)).f1) + 1))]) (j := 0) hcl13 hcc13 (show 2 ≤ 2 from by decide) (x' := (⟨a1, wrap64 (((rd_T55 l0 (ji6)).f1) + 1)⟩ : S55)) (k55_mkM _ _ _ (⟨a1, wrap64 (((rd_T55 l0 (ji6)).f1) + 1)⟩ : S55) ) (fun _ hk => hk); have hx13_0 := hcc13 0 _ rfl; (try simp only [show (k55).sz = 2 from rfl, Nat.mul_one, Nat.add_zero] at hx13_0); have hf13_0 := hfr13 0; (try simp only [show (k55).sz = 2 from rfl, Nat.mul_one, Nat.add_zero] at hf13_0); have hx13_1 := hcc13 1 _ rfl; (try simp only [show (k55).sz = 2 from rfl, Nat.mul_one, Nat.add_zero] at hx13_1); have hf13_1 := hfr13 1; (try simp only [show (k55).sz = 2 from rfl, Nat.mul_one, Nat.add_zero] at hf13_1); clear hcl13 hcc13 hfr13 hM13) | ((with_reducible refine gate_store (t := 55) (p := 39) rfl ?_); refine store_event (t := 55) (p := 39) (v := ?vo_w14) (w1 := ((wq_.setCell ⟨go11, ((ji6) : Int).toNat * 2, none⟩ (.string a1)).setCell ⟨go11, ((ji6) : Int).toNat * 2 + 1, none⟩ (.int .i64 (wrap64 (((rd_T55 l0 (ji6)).f1) + 1))))) ?hg ?ho ?hn ?hr ?_; (case ho => rfl); (case hg => rfl); (case hn => rfl); (case hr => first | (go_simp; done) | (go_simp; rfl)); intro w14 hw; have hg : wq_.grownBy w14 (some go11) := (by rw [hw]; exact HP13.2); have hp_ : Kd.R k55 55 w14 w0.heap.size (fun k_ => (P0_ k_ ∨ w.heap.size ≤ k_)) (.slice (some ⟨go11, 0, none⟩) l0.length co12) y179 := (by rw [hw, Ny179.out]; exact HP13.1); clear HP13; replace HB := am ((by rw [hw]; exact below_set (below_set (HB.out) GB11.out) GB11.out : Below w0.heap.size w0 w14)); replace HK := am (Kept.of_grown (S := (fun k_ => P0_ k_)) hg (zq HK) (fun k_ e_ => (HO0.out.1 k_ e_))); replace HO0 := am (hp_); clear hg hw hp_))
 go_ret3
 exact ⟨_, by first | rfl | (simp [errW_none, errW_some] <;> rfl) | (simp only [← hji6]; first | rfl | (simp [errW_none, errW_some] <;> rfl)) | (simp [*, errW_none, errW_some] <;> rfl), (zr HO0), (zb HB), (zq HK)⟩
/-! ### spec_l11Write: function 89 -/
mutual
def spec_l11Write.j0 : Nat → Int → ByteArray → Int → Bool → List (S55) → List (S38) → Option ((List (S55)) × (List (S38)) × Bool)
 | 0, _, _, _, _, _, _ => none
 | k + 1, x2, x3, x10, x38, x181000, x181001 => if x38 = true then (some (x181000, x181001, false)) else ((spec_l11Copy.f k x181000 x181001).bind fun bt186 => (if 0 ≤ x10 then (if x10 < (bt186.2.length : Int) then (if 0 ≤ x2 then (if x2 < (((rd_T38 bt186.2 x10).f1).length : Int) then (if (rd ((rd_T38 bt186.2 x10).f1) x2) > 0 then ((spec_l2Drop.f bt186.1 (rd ((rd_T38 bt186.2 x10).f1) x2)).bind fun t195 => (spec_l11Write.j1 k x2 x3 x10 x181000 x181001 t195 bt186.2)) else (spec_l11Write.j1 k x2 x3 x10 x181000 x181001 bt186.1 bt186.2)) else (none)) else (none)) else (none)) else (none)))
def spec_l11Write.j1 : Nat → Int → ByteArray → Int → List (S55) → List (S38) → List (S55) → List (S38) → Option ((List (S55)) × (List (S38)) × Bool)
 | 0, _, _, _, _, _, _, _ => none
 | k + 1, x2, x3, x10, x181000, x181001, x193000, x193001 => if 0 ≤ x10 then (if x10 < (x193001.length : Int) then (if 0 ≤ x2 then (if x2 < (((rd_T38 x193001 x10).f1).length : Int) then ((some (x193001.set (x10 : Int).toNat (⟨(rd_T38 x193001 x10).f0, (((rd_T38 x193001 x10).f1).set (x2 : Int).toNat 0)⟩ : S38) : List (S38))).bind fun y201 => (if x3.toList = ([] : List UInt8) then (some (x193000, y201, true)) else ((spec_l2Put.f k x193000 x3).bind fun bt202 => (if bt202.2.2 = true then (if x2 < (((rd_T38 y201 x10).f1).length : Int) then (some (bt202.1, (y201.set (x10 : Int).toNat (⟨(rd_T38 y201 x10).f0, (((rd_T38 y201 x10).f1).set (x2 : Int).toNat bt202.2.1)⟩ : S38)), true)) else (none)) else (some (x181000, x181001, false)))))) else (none)) else (none)) else (none)) else (none)
end
def spec_l11Write.f (k : Nat) (l0_0 : List (S55)) (l0_1 : List (S38)) (a1 : ByteArray) (a2 : Int) (a3 : ByteArray) : Option ((List (S55)) × (List (S38)) × Bool) := (spec_l11At.f k l0_0 l0_1 a1).bind fun t182 => (if t182 < 0 then (spec_l11Write.j0 k a2 a3 t182 true l0_0 l0_1) else (if 0 ≤ t182 then (if t182 < (l0_1.length : Int) then ((spec_l6In.f a2 0 (wrap64 ((((rd_T38 l0_1 t182).f1).length : Int) - 1))).bind fun t184 => (if t184 = true then ((spec_TextOk.f k a3).bind fun t185 => (spec_l11Write.j0 k a2 a3 t182 (!t185) l0_0 l0_1)) else (spec_l11Write.j0 k a2 a3 t182 true l0_0 l0_1))) else (none)) else (none)))
theorem spec_l11Write.mono_l : ∀ k, (∀ y0 y1 y2 y3 y4 y5, LeO (spec_l11Write.j0 k y0 y1 y2 y3 y4 y5) (spec_l11Write.j0 (k + 1) y0 y1 y2 y3 y4 y5)) ∧ (∀ y0 y1 y2 y3 y4 y5 y6, LeO (spec_l11Write.j1 k y0 y1 y2 y3 y4 y5 y6) (spec_l11Write.j1 (k + 1) y0 y1 y2 y3 y4 y5 y6))
 | 0 => ⟨fun _ _ _ _ _ _ r h => by simp [spec_l11Write.j0] at h, fun _ _ _ _ _ _ _ r h => by simp [spec_l11Write.j1] at h⟩
 | k + 1 => by
  obtain ⟨ih0, ih1⟩ := spec_l11Write.mono_l k
  refine ⟨?_, ?_⟩
  · intro y0 y1 y2 y3 y4 y5
    unfold spec_l11Write.j0
    repeat' first
    | (with_reducible exact ih0 _ _ _ _ _ _)
    | (with_reducible exact ih1 _ _ _ _ _ _ _)
    | (with_reducible exact spec_TextOk.mono _ _)
    | (with_reducible exact spec_l11At.mono _ _ _ _)
    | (with_reducible exact spec_l11Copy.mono _ _ _)
    | (with_reducible exact spec_l2Put.mono _ _ _)
    | (with_reducible exact LeO.refl _)
    | (with_reducible exact LeO.none _)
    | (with_reducible refine LeO.ite ?_ ?_)
    | (with_reducible refine LeO.bind ?_ (fun _ => ?_))
    | exact ih0 _ _ _ _ _ _
    | exact ih1 _ _ _ _ _ _ _
    | exact spec_TextOk.mono _ _
    | exact spec_l11At.mono _ _ _ _
    | exact spec_l11Copy.mono _ _ _
    | exact spec_l2Put.mono _ _ _
    | exact LeO.none _
    | refine LeO.ite ?_ ?_
    | refine LeO.bind ?_ (fun _ => ?_)
  intro y0 y1 y2 y3 y4 y5 y6
  unfold spec_l11Write.j1
  repeat' first
  | (with_reducible exact ih0 _ _ _ _ _ _)
  | (with_reducible exact ih1 _ _ _ _ _ _ _)
  | (with_reducible exact spec_TextOk.mono _ _)
  | (with_reducible exact spec_l11At.mono _ _ _ _)
  | (with_reducible exact spec_l11Copy.mono _ _ _)
  | (with_reducible exact spec_l2Put.mono _ _ _)
  | (with_reducible exact LeO.refl _)
  | (with_reducible exact LeO.none _)
  | (with_reducible refine LeO.ite ?_ ?_)
  | (with_reducible refine LeO.bind ?_ (fun _ => ?_))
  | exact ih0 _ _ _ _ _ _
  | exact ih1 _ _ _ _ _ _ _
  | exact spec_TextOk.mono _ _
  | exact spec_l11At.mono _ _ _ _
  | exact spec_l11Copy.mono _ _ _
  | exact spec_l2Put.mono _ _ _
  | exact LeO.none _
  | refine LeO.ite ?_ ?_
  | refine LeO.bind ?_ (fun _ => ?_)
theorem spec_l11Write.mono : ∀ a0 a1 a2 a3 a4 k, LeO (spec_l11Write.f k a0 a1 a2 a3 a4) (spec_l11Write.f (k + 1) a0 a1 a2 a3 a4) := by
 intro a0 a1 a2 a3 a4 k
 obtain ⟨ih0, ih1⟩ := spec_l11Write.mono_l k
 unfold spec_l11Write.f
 repeat' first
  | (with_reducible exact ih0 _ _ _ _ _ _)
  | (with_reducible exact ih1 _ _ _ _ _ _ _)
  | (with_reducible exact spec_TextOk.mono _ _)
  | (with_reducible exact spec_l11At.mono _ _ _ _)
  | (with_reducible exact spec_l11Copy.mono _ _ _)
  | (with_reducible exact spec_l2Put.mono _ _ _)
  | (with_reducible exact LeO.refl _)
  | (with_reducible exact LeO.none _)
  | (with_reducible refine LeO.ite ?_ ?_)
  | (with_reducible refine LeO.bind ?_ (fun _ => ?_))
  | exact ih0 _ _ _ _ _ _
  | exact ih1 _ _ _ _ _ _ _
  | exact spec_TextOk.mono _ _
  | exact spec_l11At.mono _ _ _ _
  | exact spec_l11Copy.mono _ _ _
  | exact spec_l2Put.mono _ _ _
  | exact LeO.none _
  | refine LeO.ite ?_ ?_
  | refine LeO.bind ?_ (fun _ => ?_)
set_option maxHeartbeats 8000000 in
set_option maxRecDepth 100000 in
theorem spec_l11Write.calls (k : Nat) (A0_0 : Option Addr) (c0_0 : Nat) (l0_0 : List (S55)) (A0_1 : Option Addr) (c0_1 : Nat) (l0_1 : List (S38)) (a1 : ByteArray) (a2 : Int) (a3 : ByteArray) (r1 : List (S55)) (r2 : List (S38)) (r3 : Bool) (w : World) (hr0_0 : Kd.C k55 w A0_0 l0_0.length l0_0) (hc0_0 : l0_0.length ≤ c0_0) (hr0_1 : Kd.C k38 w A0_1 l0_1.length l0_1) (hc0_1 : l0_1.length ≤ c0_1) (b_ : Nat) (hb_ : b_ ≤ w.heap.size) (hq0_0 : Kd.R k55 55 w b_ (fun _ => True) (.slice A0_0 l0_0.length c0_0) l0_0) (hq0_1 : Kd.S k38 38 w b_ (fun _ => True) (.slice A0_1 l0_1.length c0_1) l0_1) (h : spec_l11Write.f k l0_0 l0_1 a1 a2 a3 = some (r1, r2, r3)) :
 Calls Try.prog 89 #[.agg #[.slice A0_0 l0_0.length c0_0, .slice A0_1 l0_1.length c0_1], .string a1, .int .i64 a2, .string a3] w fun e w' => ∃ v0_ v1_ : Value, e = .returned (.tuple #[.agg #[v0_, v1_], .bool r3]) ∧ Kd.R k55 55 w' b_ (fun _ => True) v0_ r1 ∧ Kd.S k38 38 w' b_ (fun _ => True) v1_ r2 ∧ Below w.heap.size w w' := by
 have hu31 := Try.underlying31
 have HR0_0 := am hr0_0
 have HC0_0 := am hc0_0
 clear hr0_0 hc0_0
 have HR0_1 := am hr0_1
 have HC0_1 := am hc0_1
 clear hr0_1 hc0_1
 have HB := am (Below.refl w.heap.size w)
 have H : ((spec_l11At.f k l0_0 l0_1 a1).bind fun t182 => (if t182 < 0 then (spec_l11Write.j0 k a2 a3 t182 true l0_0 l0_1) else (if 0 ≤ t182 then (if t182 < (l0_1.length : Int) then ((spec_l6In.f a2 0 (wrap64 ((((rd_T38 l0_1 t182).f1).length : Int) - 1))).bind fun t184 => (if t184 = true then ((spec_TextOk.f k a3).bind fun t185 => (spec_l11Write.j0 k a2 a3 t182 (!t185) l0_0 l0_1)) else (spec_l11Write.j0 k a2 a3 t182 true l0_0 l0_1))) else (none)) else (none)))) = some (r1, r2, r3) := h
 clear h
 replace H := obs H
 obtain ⟨t182, A50, H⟩ := H
 replace H : (if t182 < 0 then (spec_l11Write.j0 k a2 a3 t182 true l0_0 l0_1) else (if 0 ≤ t182 then (if t182 < (l0_1.length : Int) then ((spec_l6In.f a2 0 (wrap64 ((((rd_T38 l0_1 t182).f1).length : Int) - 1))).bind fun t184 => (if t184 = true then ((spec_TextOk.f k a3).bind fun t185 => (spec_l11Write.j0 k a2 a3 t182 (!t185) l0_0 l0_1)) else (spec_l11Write.j0 k a2 a3 t182 true l0_0 l0_1))) else (none)) else (none))) = some (r1, r2, r3) := H
 have A5 := am A50
 clear A50
 have HC6 := am H
 clear H
 go_enter Try.func89, Try.ntmps89
 go_upto_region 2 with (first | ((with_reducible refine gate_dst (N := 4) rfl ?_); (try (refine gate_guard (by rfl) ?_; dsimp only)); refine bx 31 #[.slice A0_0 l0_0.length c0_0, .slice A0_1 l0_1.length c0_1] ?_; intro gb180 hg w7 hbox hb; have BK180 := am (hbox); have GW180 := am (zn hg (zb HB)); have GE180 := am (zn hg (zb HB)); replace HB := am (below_step (zb HB) hb); clear hb hbox hg) | ((with_reducible refine gate_dst (N := 8) rfl ?_); (try (refine gate_guard (by rfl) ?_; dsimp only)); refine bx 31 #[.slice none 0 0, .slice none 0 0] ?_; intro gb181 hg w8 hbox hb; have BK181 := am (hbox); have GW181 := am (zn hg (zb HB)); have GE181 := am (zn hg (zb HB)); replace HB := am (below_step (zb HB) hb); have NB180_181 := am (zx hg (zk BK180)); have NB181_180 := am (zy hg (zk BK180)); replace BK180 := am (blk_below (zk BK180) hb); clear hb hbox hg; have hnb9 := NB180_181.out; have hnc9 := NB181_180.out; have hcz10_0 := ce0 BK180; have hcz10_1 := ce1 BK180; have hfz10_0 := bfz BK180 0; have hfz10_1 := bfz BK180 1) | ((with_reducible refine gate_callee (f := 57) rfl ?_); refine gl Try.func57 18 #[.agg #[.slice A0_0 l0_0.length c0_0, .slice A0_1 l0_1.length c0_1], .string a1] rfl rfl rfl ?_; (with_reducible refine (spec_l11At.calls k _ _ l0_0 _ _ l0_1 a1 t182 _ ?side1 ?side2 ?side3 ?side4 A5.out).mono ?_); (case side1 => exact zc (Kd.C_below HR0_0.out HB.out)); (case side2 => exact HC0_0.out); (case side3 => exact zc (Kd.C_below HR0_1.out HB.out)); (case side4 => exact HC0_1.out); rintro e w11 ⟨rfl, hb⟩; refine ⟨_, rfl, ?_⟩; replace BK180 := am (blk_below (zk BK180) hb); replace BK181 := am (blk_below (zk BK181) hb); replace HB := am (below_step (zb HB) hb); (try clear hb); (try clear hb2); (try clear hk); (try clear hi)))
 (try simp only [Act.put, List.setIfInBounds_toArray, List.set_cons_zero, List.set_cons_succ])
 go_cut [38] (fun v38 wc => ∃ (kq : Nat) (x38_5 : Bool), v38 = .bool x38_5 ∧ Aside0 (spec_l11Write.j0 kq a2 a3 t182 x38_5 l0_0 l0_1 = some (r1, r2, r3)) ∧ Aside0 (kq ≤ k) ∧ Aside0 (wc.heap[gb180]? = some (.cells #[(.slice A0_0 l0_0.length c0_0), (.slice A0_1 l0_1.length c0_1)] 31 (0, 0))) ∧ Aside0 (wc.heap[gb181]? = some (.cells #[(.slice none 0 0), (.slice none 0 0)] 31 (0, 0))) ∧ Aside0 (Below w.heap.size w wc))
 case first =>
  have H := HC6.out
  clear HC6
  by_cases c12 : t182 < 0
  · rw [if_pos c12] at H
    have c12b0 : decide (t182 < 0) = true := decide_eq_true c12
    clear c12
    (first | rw [c12b0] | (simp only [i64_w, i32_w]; rw [c12b0]) | skip)
    have H' := am H
    clear H
    go_wp2
    go_meet
    case rel => exact ⟨_, (true), ze, H', ⟨by first | omega | exact Nat.le_refl _⟩, ⟨zk BK180⟩, ⟨zk BK181⟩, ⟨zb HB⟩⟩
  rw [if_neg c12] at H
  have c12b0 : decide (t182 < 0) = false := decide_eq_false c12
  clear c12
  (first | rw [c12b0] | (simp only [i64_w, i32_w]; rw [c12b0]) | skip)
  by_cases c13 : 0 ≤ t182
  rotate_left
  · rw [if_neg c13] at H
    exact absurd H (by simp)
  rw [if_pos c13] at H
  have c13b0 : decide (0 ≤ t182) = true := decide_eq_true c13
  clear c13
  by_cases c14 : t182 < (l0_1.length : Int)
  rotate_left
  · rw [if_neg c14] at H
    exact absurd H (by simp)
  rw [if_pos c14] at H
  have c14b0 : decide (t182 < (l0_1.length : Int)) = true := decide_eq_true c14
  clear c14
  replace H := obs H
  obtain ⟨t184, A150, H⟩ := H
  replace H : (if t184 = true then ((spec_TextOk.f k a3).bind fun t185 => (spec_l11Write.j0 k a2 a3 t182 (!t185) l0_0 l0_1)) else (spec_l11Write.j0 k a2 a3 t182 true l0_0 l0_1)) = some (r1, r2, r3) := H
  have A15 := am A150
  clear A150
  by_cases c16 : t184 = true
  rotate_left
  · replace c16 := Bool.eq_false_iff.mpr c16
    subst c16
    have H1 : (spec_l11Write.j0 k a2 a3 t182 true l0_0 l0_1) = some (r1, r2, r3) := by rw [if_neg (show ¬ (false = true) by decide)] at H; exact H
    clear H
    have H := H1
    clear H1
    have H' := am H
    clear H
    have hnb20 := NB180_181.out
    have hnc20 := NB181_180.out
    have hcz21_0 := ce0 BK180
    have hcz21_1 := ce1 BK180
    have hfz21_0 := bfz BK180 0
    have hfz21_1 := bfz BK180 1
    have p183 : 0 ≤ (t182 : Int) := of_decide_eq_true zl
    have q183 : t182 < (l0_1.length : Int) := of_decide_eq_true zl
    obtain ⟨ad183, A183_1, c183_1, e183, hx183_0, hx183_1, hl183_1, hi183_1⟩ := at_T38 HR0_1.out t182 p183 q183
    cases e183
    replace hx183_0 := hcx HB hx183_0
    replace hx183_1 := hcx HB hx183_1
    have HR183_1 := am hi183_1
    have HC183_1 := am hl183_1
    clear hi183_1 hl183_1
    replace p183 := eq_true p183
    replace q183 := eq_true q183
    go_wp2_with (first | (go_at_call 55; (with_reducible refine (spec_l6In.calls a2 0 (wrap64 ((((rd_T38 l0_1 t182).f1).length : Int) - 1)) false _ A15.out).mono ?_); rintro e w' ⟨rfl, ⟨nd, rfl⟩⟩))
    go_meet
    case rel => exact ⟨_, (true), ze, H', ⟨by first | omega | exact Nat.le_refl _⟩, ⟨zk BK180⟩, ⟨zk BK181⟩, ⟨zb HB⟩⟩
  subst c16
  have H1 : ((spec_TextOk.f k a3).bind fun t185 => (spec_l11Write.j0 k a2 a3 t182 (!t185) l0_0 l0_1)) = some (r1, r2, r3) := by rw [if_pos rfl] at H; exact H
  clear H
  have H := H1
  clear H1
  replace H := obs H
  obtain ⟨t185, A170, H⟩ := H
  replace H : (spec_l11Write.j0 k a2 a3 t182 (!t185) l0_0 l0_1) = some (r1, r2, r3) := H
  have A17 := am A170
  clear A170
  have H' := am H
  clear H
  have hnb18 := NB180_181.out
  have hnc18 := NB181_180.out
  have hcz19_0 := ce0 BK180
  have hcz19_1 := ce1 BK180
  have hfz19_0 := bfz BK180 0
  have hfz19_1 := bfz BK180 1
  have p183 : 0 ≤ (t182 : Int) := of_decide_eq_true zl
  have q183 : t182 < (l0_1.length : Int) := of_decide_eq_true zl
  obtain ⟨ad183, A183_1, c183_1, e183, hx183_0, hx183_1, hl183_1, hi183_1⟩ := at_T38 HR0_1.out t182 p183 q183
  cases e183
  replace hx183_0 := hcx HB hx183_0
  replace hx183_1 := hcx HB hx183_1
  have HR183_1 := am hi183_1
  have HC183_1 := am hl183_1
  clear hi183_1 hl183_1
  replace p183 := eq_true p183
  replace q183 := eq_true q183
  go_wp2_with (first | (go_at_call 55; (with_reducible refine (spec_l6In.calls a2 0 (wrap64 ((((rd_T38 l0_1 t182).f1).length : Int) - 1)) true _ A15.out).mono ?_); rintro e w' ⟨rfl, ⟨nd, rfl⟩⟩) | (go_at_call 65; (with_reducible refine (spec_TextOk.calls k a3 t185 _ A17.out).mono ?_); rintro e w' ⟨rfl, ⟨nd, rfl⟩⟩))
  go_meet
  case rel => exact ⟨_, (!t185), ze, H', ⟨by first | omega | exact Nat.le_refl _⟩, ⟨zk BK180⟩, ⟨zk BK181⟩, ⟨zb HB⟩⟩
 clear HC6
 try clear c1
 try clear p1
 try clear q1
 try clear hx1
 try clear c2
 try clear p2
 try clear c5
 try clear p6
 try clear c8
 try clear c9
 try clear c12
 try clear c12b0
 try clear c13
 try clear c13b0
 try clear c14
 try clear c14b0
 try clear c16
 try clear c18
 try clear p18
 try clear q18
 try clear hx18
 try clear c20
 try clear hcz10_0
 try clear hcz10_1
 try clear hcz19_0
 try clear hcz19_1
 try clear hcz21_0
 try clear hcz21_1
 try clear hfz10_0
 try clear hfz10_1
 try clear hfz19_0
 try clear hfz19_1
 try clear hfz21_0
 try clear hfz21_1
 try clear hx183_0
 try clear hx183_1
 try clear p183
 try clear q183
 obtain ⟨kq, x38_5, rfl, HA, HJ5, BK180, BK181, HB⟩ := hcut
 cases kq with
 | zero => exact absurd HA.out (by simp [spec_l11Write.j0])
 | succ kj5 =>
  have H := HA.out
  clear HA
  simp only [spec_l11Write.j0] at H
  by_cases c22 : x38_5 = true
  · subst c22
    have H1 : (some (l0_0, l0_1, false)) = some (r1, r2, r3) := by rw [if_pos rfl] at H; exact H
    clear H
    have H := H1
    clear H1
    simp only [Option.some.injEq, Prod.mk.injEq] at H
    obtain ⟨rfl, rfl, rfl⟩ := H
    have hnb23 := NB180_181.out
    have hnc23 := NB181_180.out
    have hcz24_0 := ce0 BK180
    have hcz24_1 := ce1 BK180
    have hfz24_0 := bfz BK180 0
    have hfz24_1 := bfz BK180 1
    have hcz25_0 := ce0 BK181
    have hcz25_1 := ce1 BK181
    have hfz25_0 := bfz BK181 0
    have hfz25_1 := bfz BK181 1
    go_wp2
    refine bodyPost_ret (results_ct rfl _ _ gb181 31 #[.slice A0_0 l0_0.length c0_0, .slice A0_1 l0_1.length c0_1] (0, 0) _ rfl (zp BK181) Try.underlying31 rfl (by kernel_rfl)) rfl ?_
    exact ⟨_, _, zw, (Kd.R_below hq0_0 (zb HB)), (Kd.S_below hq0_1 (zb HB)), (zb HB)⟩
  replace c22 := Bool.eq_false_iff.mpr c22
  subst c22
  have H1 : ((spec_l11Copy.f kj5 l0_0 l0_1).bind fun bt186 => (if 0 ≤ t182 then (if t182 < (bt186.2.length : Int) then (if 0 ≤ a2 then (if a2 < (((rd_T38 bt186.2 t182).f1).length : Int) then (if (rd ((rd_T38 bt186.2 t182).f1) a2) > 0 then ((spec_l2Drop.f bt186.1 (rd ((rd_T38 bt186.2 t182).f1) a2)).bind fun t195 => (spec_l11Write.j1 kj5 a2 a3 t182 l0_0 l0_1 t195 bt186.2)) else (spec_l11Write.j1 kj5 a2 a3 t182 l0_0 l0_1 bt186.1 bt186.2)) else (none)) else (none)) else (none)) else (none))) = some (r1, r2, r3) := by rw [if_neg (show ¬ (false = true) by decide)] at H; exact H
  clear H
  have H := H1
  clear H1
  replace H := obs H
  obtain ⟨⟨t186, t189⟩, A260, H⟩ := H
  replace H : (if 0 ≤ t182 then (if t182 < (t189.length : Int) then (if 0 ≤ a2 then (if a2 < (((rd_T38 t189 t182).f1).length : Int) then (if (rd ((rd_T38 t189 t182).f1) a2) > 0 then ((spec_l2Drop.f t186 (rd ((rd_T38 t189 t182).f1) a2)).bind fun t195 => (spec_l11Write.j1 kj5 a2 a3 t182 l0_0 l0_1 t195 t189)) else (spec_l11Write.j1 kj5 a2 a3 t182 l0_0 l0_1 t186 t189)) else (none)) else (none)) else (none)) else (none)) = some (r1, r2, r3) := H
  have A26 := am A260
  clear A260
  by_cases c27 : 0 ≤ t182
  rotate_left
  · rw [if_neg c27] at H
    exact absurd H (by simp)
  rw [if_pos c27] at H
  have c27b0 : decide (0 ≤ t182) = true := decide_eq_true c27
  clear c27
  by_cases c28 : t182 < (t189.length : Int)
  rotate_left
  · rw [if_neg c28] at H
    exact absurd H (by simp)
  rw [if_pos c28] at H
  have c28b0 : decide (t182 < (t189.length : Int)) = true := decide_eq_true c28
  clear c28
  by_cases c29 : 0 ≤ a2
  rotate_left
  · rw [if_neg c29] at H
    exact absurd H (by simp)
  rw [if_pos c29] at H
  have c29b0 : decide (0 ≤ a2) = true := decide_eq_true c29
  clear c29
  by_cases c30 : a2 < (((rd_T38 t189 t182).f1).length : Int)
  rotate_left
  · rw [if_neg c30] at H
    exact absurd H (by simp)
  rw [if_pos c30] at H
  have c30b0 : decide (a2 < (((rd_T38 t189 t182).f1).length : Int)) = true := decide_eq_true c30
  clear c30
  have HC31 := am H
  clear H
  have hnb32 := NB180_181.out
  have hnc32 := NB181_180.out
  have hcz33_0 := ce0 BK180
  have hcz33_1 := ce1 BK180
  have hfz33_0 := bfz BK180 0
  have hfz33_1 := bfz BK180 1
  go_upto_if 52 with (first | ((with_reducible refine gate_callee (f := 82) rfl ?_); refine gl Try.func82 41 #[.agg #[.slice A0_0 l0_0.length c0_0, .slice A0_1 l0_1.length c0_1]] rfl rfl rfl ?_; (with_reducible refine (spec_l11Copy.calls kj5 _ _ l0_0 _ _ l0_1 t186 t189 _ ?side1 ?side2 ?side3 ?side4 A26.out).mono ?_); (case side1 => exact zc (Kd.C_below HR0_0.out HB.out)); (case side2 => exact HC0_0.out); (case side3 => exact zc (Kd.C_below HR0_1.out HB.out)); (case side4 => exact HC0_1.out); rintro e w34 ⟨v187, v190, rfl, ho0, ho1, hb⟩; refine ⟨_, rfl, ?_⟩; have HO188 := am (Kd.R_lower ho0 (below_size (zb HB))); have HO191 := am (Kd.S_lower ho1 (below_size (zb HB))); replace BK180 := am (blk_below (zk BK180) hb); replace BK181 := am (blk_below (zk BK181) hb); replace HB := am (below_step (zb HB) hb); (try clear hb); (try clear hb2); (try clear hk); (try clear hi); (try clear ho0); (try clear ho1)) | ((with_reducible refine gate_dst (N := 11) rfl ?_); (try (refine gate_guard (by rfl) ?_; dsimp only)); refine bx 31 #[.slice none 0 0, .slice none 0 0] ?_; intro gb192 hg w35 hbox hb; replace HO188 := am (Kd.R_below (zr HO188) hb); replace HO191 := am (Kd.S_below (zs HO191) hb); have BK192 := am (hbox); have GW192 := am (zn hg (zb HB)); have GE192 := am (zn hg (zb HB)); replace HB := am (below_step (zb HB) hb); have NB180_192 := am (zx hg (zk BK180)); have NB192_180 := am (zy hg (zk BK180)); replace BK180 := am (blk_below (zk BK180) hb); have NB181_192 := am (zx hg (zk BK181)); have NB192_181 := am (zy hg (zk BK181)); replace BK181 := am (blk_below (zk BK181) hb); clear hb hbox hg; obtain ⟨Ao36, co36, eo36⟩ := Kd.R_slice HO188.out; subst eo36; have hnb37 := NB192_180.out; have hnc37 := NB180_192.out; have hnb38 := NB192_181.out; have hnc38 := NB181_192.out; have hcz39_0 := ce0 BK192; have hcz39_1 := ce1 BK192; have hfz39_0 := bfz BK192 0; have hfz39_1 := bfz BK192 1; obtain ⟨Ao40, co40, eo40⟩ := Kd.S_slice HO191.out; subst eo40) | ((with_reducible refine gate_store (t := 31) (p := 11) rfl ?_); refine store_event (t := 31) (p := 11) (v := ?vo_w41) (w1 := ((w35.setCell ⟨gb192, 0, none⟩ (.slice Ao36 t186.length co36)).setCell ⟨gb192, 1, none⟩ (.slice Ao40 t189.length co40))) ?hg ?ho ?hn ?hr ?_; (case ho => rfl); (case hg => rfl); (case hn => rfl); (case hr => first | (go_simp; done) | (go_simp; rfl)); intro w41 hw; replace HO188 : Aside0 (Kd.R k55 55 w41 w.heap.size (fun _ => True) (.slice Ao36 t186.length co36) t186) := ⟨(by rw [hw]; exact (by (with_reducible repeat (first | apply Kd.R_alloc | apply Kd.R_drewN | apply Kd.R_drew)); exact Kd.R_mono (Kd.R_far (p := ⟨gb192, 1, none⟩) (Kd.R_far (p := ⟨gb192, 0, none⟩) (Kd.R_types HO188.out BK192.out (by decide)) (fun _ hk => hk.2) (.slice Ao36 t186.length co36)) (fun _ hk => hk.2) (.slice Ao40 t189.length co40)) (fun _ hk => trivial)))⟩; replace HO191 : Aside0 (Kd.S k38 38 w41 w.heap.size (fun _ => True) (.slice Ao40 t189.length co40) t189) := ⟨(by rw [hw]; exact (by (with_reducible repeat (first | apply Kd.S_alloc | apply Kd.S_drewN | apply Kd.S_drew)); exact Kd.S_mono (Kd.S_far (p := ⟨gb192, 1, none⟩) (Kd.S_far (p := ⟨gb192, 0, none⟩) (Kd.S_types HO191.out BK192.out (by decide)) (fun _ hk => hk.2) (.slice Ao36 t186.length co36)) (fun _ hk => hk.2) (.slice Ao40 t189.length co40)) (fun _ hk => trivial)))⟩; replace BK180 : Aside0 (w41.heap[gb180]? = some (.cells #[.slice A0_0 l0_0.length c0_0, .slice A0_1 l0_1.length c0_1] 31 (0, 0))) := ⟨(by rw [hw]; exact (zk BK180))⟩; replace BK181 : Aside0 (w41.heap[gb181]? = some (.cells #[.slice none 0 0, .slice none 0 0] 31 (0, 0))) := ⟨(by rw [hw]; exact (zk BK181))⟩; replace BK192 : Aside0 (w41.heap[gb192]? = some (.cells #[.slice Ao36 t186.length co36, .slice Ao40 t189.length co40] 31 (0, 0))) := ⟨(by rw [hw]; exact (zp BK192))⟩; replace HB : Aside0 (Below w.heap.size w w41) := ⟨(by rw [hw]; exact (zb HB))⟩; clear hw; have hcz42_0 := ce0 BK192; have hcz42_1 := ce1 BK192; have hfz42_0 := bfz BK192 0; have hfz42_1 := bfz BK192 1; have p193 : 0 ≤ (t182 : Int) := of_decide_eq_true zl; have q193 : t182 < (t189.length : Int) := of_decide_eq_true zl; obtain ⟨ad193, A193_1, c193_1, e193, hx193_0, hx193_1, hl193_1, hi193_1⟩ := at_T38 (Kd.S_reads' HO191.out).2.2 t182 p193 q193; cases e193; obtain ⟨ce193, hce193, hMe193, hcc193⟩ := Kd.S_get HO191.out z38 t182 p193 (by first | exact q193 | exact of_decide_eq_true zl | (have e_ := (Kd.S_reads' HO191.out).1; omega)); obtain ⟨ve193_1, rfl, ge193_1⟩ := k38_openM hMe193; have hv193_1 := hcc193 1 _ rfl; rw [add_field _ _ 1 (by omega)] at hv193_1; replace hv193_1 := Option.some.inj (hv193_1.symm.trans hx193_1); rw [hv193_1] at ge193_1; have HL193_1 := am (show Kd.R (Kd.int .i64) 3 _ _ _ _ ((rd_T38 t189 t182).f1) from ge193_1); clear hv193_1 ge193_1; have HX193_1 := am hx193_1; clear hcc193 hce193; have HR193_1 := am hi193_1; have HC193_1 := am hl193_1; clear hi193_1 hl193_1; replace p193 := eq_true p193; replace q193 := eq_true q193; have p194 : 0 ≤ (a2 : Int) := of_decide_eq_true zl; have q194 : a2 < (((rd_T38 t189 t182).f1).length : Int) := of_decide_eq_true zl; obtain ⟨ad194, e194, hx194_0⟩ := Kd.at_int (zc HR193_1.out) a2 p194 q194; cases e194; replace p194 := eq_true p194; replace q194 := eq_true q194))
  (try simp only [Act.put, List.setIfInBounds_toArray, List.set_cons_zero, List.set_cons_succ])
  go_cut [] (fun wc => ∃ (kq : Nat) (x193000_30 : List (S55)) (u193000 : Value), Aside0 (spec_l11Write.j1 kq a2 a3 t182 l0_0 l0_1 x193000_30 t189 = some (r1, r2, r3)) ∧ Aside0 (kq ≤ kj5) ∧ Aside0 (Kd.R k55 55 wc w.heap.size (fun _ => True) u193000 x193000_30) ∧ Aside0 (Kd.S k38 38 wc w.heap.size (fun _ => True) (.slice (some ad193) t189.length co40) t189) ∧ Aside0 (wc.heap[gb180]? = some (.cells #[(.slice A0_0 l0_0.length c0_0), (.slice A0_1 l0_1.length c0_1)] 31 (0, 0))) ∧ Aside0 (wc.heap[gb181]? = some (.cells #[(.slice none 0 0), (.slice none 0 0)] 31 (0, 0))) ∧ Aside0 (wc.heap[gb192]? = some (.cells #[u193000, (.slice (some ad193) t189.length co40)] 31 (0, 0))) ∧ Aside0 (Below w.heap.size w wc))
  case first =>
   have H := HC31.out
   clear HC31
   by_cases c43 : (rd ((rd_T38 t189 t182).f1) a2) > 0
   rotate_left
   · rw [if_neg c43] at H
     have c43b0 : decide (0 < (rd ((rd_T38 t189 t182).f1) a2)) = false := decide_eq_false c43
     clear c43
     (first | rw [c43b0] | (simp only [i64_w, i32_w]; rw [c43b0]) | skip)
     have H' := am H
     clear H
     go_wp2
     go_meet
     case rel => exact ⟨_, (t186), (.slice Ao36 t186.length co36), H', ⟨by have := HJ5.out; first | omega | exact Nat.le_refl _⟩, ⟨zr HO188⟩, ⟨zs HO191⟩, ⟨zk BK180⟩, ⟨zk BK181⟩, ⟨zk BK192⟩, ⟨zb HB⟩⟩
   rw [if_pos c43] at H
   have c43b0 : decide (0 < (rd ((rd_T38 t189 t182).f1) a2)) = true := decide_eq_true c43
   clear c43
   (first | rw [c43b0] | (simp only [i64_w, i32_w]; rw [c43b0]) | skip)
   replace H := obs H
   obtain ⟨t195, A440, H⟩ := H
   replace H : (spec_l11Write.j1 kj5 a2 a3 t182 l0_0 l0_1 t195 t189) = some (r1, r2, r3) := H
   have A44 := am A440
   clear A440
   have H' := am H
   clear H
   have hnb45 := NB192_180.out
   have hnc45 := NB180_192.out
   have hnb46 := NB192_181.out
   have hnc46 := NB181_192.out
   have hcz47_0 := ce0 BK192
   have hcz47_1 := ce1 BK192
   have hfz47_0 := bfz BK192 0
   have hfz47_1 := bfz BK192 1
   go_wp2_with (first | ((with_reducible refine gate_callee (f := 96) rfl ?_); refine gl Try.func96 56 #[.slice Ao36 t186.length co36, .int .i64 (rd ((rd_T38 t189 t182).f1) a2)] rfl rfl rfl ?_; (with_reducible refine (spec_l2Drop.calls (fun k_ => some k_ = (.slice Ao36 t186.length co36 : Value).ownBlock) (.slice Ao36 t186.length co36) t186 (rd ((rd_T38 t189 t182).f1) a2) t195 w _ ?side1 ?side2 A44.out).mono ?_); (case side1 => exact zb HB); (case side2 => exact Kd.R_tight rfl HO188.out); rintro e w48 ⟨v196, rfl, ho0, hb, hkp⟩; refine ⟨_, rfl, ?_⟩; replace BK180 := am (blk_kept (zk BK180) hkp (fun hs_ => (fun e_ => (Kd.R_ne HO188.out BK180.out (by decide)) e_) hs_)); replace BK181 := am (blk_kept (zk BK181) hkp (fun hs_ => (fun e_ => (Kd.R_ne HO188.out BK181.out (by decide)) e_) hs_)); replace HO191 := am (Kd.S_mono (ok' := fun k_ => True) (Kd.S_keptB ((Kd.S_apart' HO191.out (Kd.R_typed HO188.out) (by decide))) hkp (fun k_ hk_ hs_ => (hk_.2) hs_)) (fun k_ hk_ => trivial)); replace BK192 := am (blk_kept (zk BK192) hkp (fun hs_ => (fun e_ => (Kd.R_ne HO188.out BK192.out (by decide)) e_) hs_)); have HO197 := am (Kd.R_mono (ok' := fun k_ => True) ho0 (fun k_ hk_ => trivial)); replace HB := am (hb); clear HO188 HL193_1; (try clear hb); (try clear hkp); (try clear ho0); obtain ⟨Ao49, co49, eo49⟩ := Kd.R_slice HO197.out; subst eo49; have hcz50_0 := ce0 BK192; have hcz50_1 := ce1 BK192; have hfz50_0 := bfz BK192 0; have hfz50_1 := bfz BK192 1))
   go_meet
   case rel => exact ⟨_, (t195), (.slice Ao49 t195.length co49), H', ⟨by have := HJ5.out; first | omega | exact Nat.le_refl _⟩, ⟨by (with_reducible repeat (first | apply Kd.R_alloc | apply Kd.R_drewN | apply Kd.R_drew)); exact Kd.R_mono (Kd.R_far (p := ⟨gb192, 0, none⟩) (Kd.R_types HO197.out BK192.out (by decide)) (fun _ hk => by first | exact hk.2 | trivial) (.slice Ao49 t195.length co49)) (fun _ hk => trivial)⟩, ⟨by (with_reducible repeat (first | apply Kd.S_alloc | apply Kd.S_drewN | apply Kd.S_drew)); exact Kd.S_mono (Kd.S_far (p := ⟨gb192, 0, none⟩) (Kd.S_types HO191.out BK192.out (by decide)) (fun _ hk => by first | exact hk.2 | trivial) (.slice Ao49 t195.length co49)) (fun _ hk => trivial)⟩, ⟨zk BK180⟩, ⟨zk BK181⟩, ⟨zp BK192⟩, ⟨zb HB⟩⟩
  clear HC31
  try clear c1
  try clear p1
  try clear q1
  try clear hx1
  try clear c2
  try clear p2
  try clear c3
  try clear c4
  try clear c5
  try clear p6
  try clear c8
  try clear c9
  try clear c12
  try clear c12b0
  try clear c13
  try clear c13b0
  try clear c14
  try clear c14b0
  try clear c16
  try clear c18
  try clear p18
  try clear q18
  try clear hx18
  try clear c19
  try clear p19
  try clear q19
  try clear hx19
  try clear c20
  try clear c22
  try clear c23
  try clear c27
  try clear c27b0
  try clear c28
  try clear c28b0
  try clear c29
  try clear c29b0
  try clear c30
  try clear c30b0
  try clear c32
  try clear c37
  try clear c38
  try clear c43
  try clear c43b0
  try clear c45
  try clear c46
  try clear hcz10_0
  try clear hcz10_1
  try clear hcz19_0
  try clear hcz19_1
  try clear hcz21_0
  try clear hcz21_1
  try clear hcz24_0
  try clear hcz24_1
  try clear hcz25_0
  try clear hcz25_1
  try clear hcz33_0
  try clear hcz33_1
  try clear hcz39_0
  try clear hcz39_1
  try clear hcz42_0
  try clear hcz42_1
  try clear hcz47_0
  try clear hcz47_1
  try clear hcz50_0
  try clear hcz50_1
  try clear hfz10_0
  try clear hfz10_1
  try clear hfz19_0
  try clear hfz19_1
  try clear hfz21_0
  try clear hfz21_1
  try clear hfz24_0
  try clear hfz24_1
  try clear hfz25_0
  try clear hfz25_1
  try clear hfz33_0
  try clear hfz33_1
  try clear hfz39_0
  try clear hfz39_1
  try clear hfz42_0
  try clear hfz42_1
  try clear hfz47_0
  try clear hfz47_1
  try clear hfz50_0
  try clear hfz50_1
  try clear hx183_0
  try clear hx183_1
  try clear hx193_0
  try clear hx193_1
  try clear hx194_0
  try clear p1
  try clear p18
  try clear p183
  try clear p193
  try clear p194
  try clear p2
  try clear p6
  try clear q1
  try clear q18
  try clear q183
  try clear q193
  try clear q194
  obtain ⟨kq, x193000_30, u193000, HA, HJ30, HO_193000, HO_193001, BK180, BK181, BK192, HB⟩ := hcut
  cases kq with
  | zero => exact absurd HA.out (by simp [spec_l11Write.j1])
  | succ kj30 =>
   have H := HA.out
   clear HA
   simp only [spec_l11Write.j1] at H
   by_cases c51 : 0 ≤ t182
   rotate_left
   · rw [if_neg c51] at H
     exact absurd H (by simp)
   rw [if_pos c51] at H
   have c51b0 : decide (0 ≤ t182) = true := decide_eq_true c51
   clear c51
   by_cases c52 : t182 < (t189.length : Int)
   rotate_left
   · rw [if_neg c52] at H
     exact absurd H (by simp)
   rw [if_pos c52] at H
   have c52b0 : decide (t182 < (t189.length : Int)) = true := decide_eq_true c52
   clear c52
   by_cases c53 : 0 ≤ a2
   rotate_left
   · rw [if_neg c53] at H
     exact absurd H (by simp)
   rw [if_pos c53] at H
   have c53b0 : decide (0 ≤ a2) = true := decide_eq_true c53
   clear c53
   by_cases c54 : a2 < (((rd_T38 t189 t182).f1).length : Int)
   rotate_left
   · rw [if_neg c54] at H
     exact absurd H (by simp)
   rw [if_pos c54] at H
   have c54b0 : decide (a2 < (((rd_T38 t189 t182).f1).length : Int)) = true := decide_eq_true c54
   clear c54
   obtain ⟨y199, hy199⟩ : ∃ y_ : List Int, y_ = (((rd_T38 t189 t182).f1).set (a2 : Int).toNat 0) := ⟨_, rfl⟩
   replace H : ((some (t189.set (t182 : Int).toNat (⟨(rd_T38 t189 t182).f0, y199⟩ : S38) : List (S38))).bind fun y201 => (if a3.toList = ([] : List UInt8) then (some (x193000_30, y201, true)) else ((spec_l2Put.f kj30 x193000_30 a3).bind fun bt202 => (if bt202.2.2 = true then (if a2 < (((rd_T38 y201 t182).f1).length : Int) then (some (bt202.1, (y201.set (t182 : Int).toNat (⟨(rd_T38 y201 t182).f0, (((rd_T38 y201 t182).f1).set (a2 : Int).toNat bt202.2.1)⟩ : S38)), true)) else (none)) else (some (l0_0, l0_1, false)))))) = some (r1, r2, r3) := hY hy199 H
   have Ny199 := am hy199
   clear hy199
   obtain ⟨y201, hy201⟩ : ∃ y_ : List (S38), y_ = (t189.set (t182 : Int).toNat (⟨(rd_T38 t189 t182).f0, y199⟩ : S38)) := ⟨_, rfl⟩
   replace H : (if a3.toList = ([] : List UInt8) then (some (x193000_30, y201, true)) else ((spec_l2Put.f kj30 x193000_30 a3).bind fun bt202 => (if bt202.2.2 = true then (if a2 < (((rd_T38 y201 t182).f1).length : Int) then (some (bt202.1, (y201.set (t182 : Int).toNat (⟨(rd_T38 y201 t182).f0, (((rd_T38 y201 t182).f1).set (a2 : Int).toNat bt202.2.1)⟩ : S38)), true)) else (none)) else (some (l0_0, l0_1, false))))) = some (r1, r2, r3) := hY hy201 H
   have Ny201 := am hy201
   clear hy201
   by_cases c56 : a3.toList = ([] : List UInt8)
   · rw [if_pos c56] at H
     have c56b0 : (a3.toList == ([] : List UInt8)) = true := beq_iff_eq.mpr c56
     have c56b1 : (a3.toList != ([] : List UInt8)) = false := bne_eq_false_iff_eq.mpr c56
     clear c56
     simp only [Option.some.injEq, Prod.mk.injEq] at H
     obtain ⟨rfl, rfl, rfl⟩ := H
     have hnb57 := NB192_180.out
     have hnc57 := NB180_192.out
     have hnb58 := NB192_181.out
     have hnc58 := NB181_192.out
     have hcz59_0 := ce0 BK192
     have hcz59_1 := ce1 BK192
     have hfz59_0 := bfz BK192 0
     have hfz59_1 := bfz BK192 1
     have p198 : 0 ≤ (t182 : Int) := of_decide_eq_true zl
     have q198 : t182 < (t189.length : Int) := of_decide_eq_true zl
     obtain ⟨ad198, A198_1, c198_1, e198, hx198_0, hx198_1, hl198_1, hi198_1⟩ := at_T38 (Kd.S_reads' HO_193001.out).2.2 t182 p198 q198
     obtain rfl : ad193 = ad198 := (by injection e198)
     obtain ⟨ce198, hce198, hMe198, hcc198⟩ := Kd.S_get HO_193001.out z38 t182 p198 (by first | exact q198 | exact of_decide_eq_true zl | (have e_ := (Kd.S_reads' HO_193001.out).1; omega))
     obtain ⟨ve198_1, rfl, ge198_1⟩ := k38_openM hMe198
     have hv198_1 := hcc198 1 _ rfl
     rw [add_field _ _ 1 (by omega)] at hv198_1
     replace hv198_1 := Option.some.inj (hv198_1.symm.trans hx198_1)
     rw [hv198_1] at ge198_1
     have HL198_1 := am (show Kd.R (Kd.int .i64) 3 _ _ _ _ ((rd_T38 t189 t182).f1) from ge198_1)
     clear hv198_1 ge198_1
     have HX198_1 := am hx198_1
     clear hcc198 hce198
     have HR198_1 := am hi198_1
     have HC198_1 := am hl198_1
     clear hi198_1 hl198_1
     replace p198 := eq_true p198
     replace q198 := eq_true q198
     have p55 : 0 ≤ (a2 : Int) := of_decide_eq_true zl
     have q55 : (a2 : Int) < ((((rd_T38 t189 t182).f1).length : Int) : Int) := of_decide_eq_true zl
     obtain ⟨go55, co55, eo55, gb55, gl55, cl55, HG55⟩ := Kd.R_form HL198_1.out (by omega)
     (first | cases eo55 | (injection eo55 with ea_ en_ ec_; (first | subst ea_ | (injection ea_ with ea_; subst ea_)); subst ec_; clear en_))
     have GB55 := am gb55
     have GG55 := am HG55
     clear gb55 gl55 HG55
     obtain ⟨hx55_0, hf55_0⟩ := Kd.R_celln 0 HL198_1.out (a2 : Int) p55 q55
     replace p55 := eq_true p55
     replace q55 := eq_true q55
     have hq60 : (t182 : Int) < (t189.length : Int) := (by have h_ : (t182 : Int) < ((t189.length : Int) : Int) := of_decide_eq_true zl; first | exact h_ | (have e_ := (Kd.S_reads' HO_193001.out).1; omega) | simpa only [List.length_set, List.length_set] using h_)
     obtain ⟨oki60, ce60, hcl60, hM60, hcc60, hok60, hbk60⟩ := Kd.S_borrow HO_193001.out z38 (t182 : Int) (of_decide_eq_true zl) (by first | exact hq60 | (have e_ := (Kd.S_reads' HO_193001.out).1; have h_ := hq60; omega))
     obtain ⟨ve60_1, rfl, ge60_1⟩ := k38_openM hM60
     have hv60 := hcc60 1 _ rfl
     rw [add_field _ _ 1 (by omega)] at hv60
     replace hv60 := Option.some.inj (hv60.symm.trans HX198_1.out)
     subst hv60
     clear hcc60 hcl60
     replace ge60_1 := (show Kd.R (Kd.int .i64) 3 _ _ _ _ ((rd_T38 t189 t182).f1) from ge60_1)
     have HP60 := Kd.R_putg ge60_1 (a2 : Int) 0
     go_wp2_with (first | ((with_reducible refine gate_store (t := 3) (p := 65) rfl ?_); refine store_event (t := 3) (p := 65) (v := ?vo_w61) (w1 := (wc.setCell ⟨go55, (a2 : Int).toNat, none⟩ (.int .i64 0))) ?hg ?ho ?hn ?hr ?_; (case ho => rfl); (case hg => rfl); (case hn => rfl); (case hr => first | (go_simp; done) | (go_simp; rfl)); intro w61 hw; have hg : wc.grownBy w61 (some go55) := (by rw [hw]; exact HP60.2); have hz_ : Kd.R (Kd.int .i64) 3 w61 w.heap.size oki60 (.slice (some ⟨go55, 0, none⟩) ((rd_T38 t189 t182).f1).length c198_1) y199 := (by rw [hw, Ny199.out]; exact HP60.1); have hp_ : Kd.S k38 38 w61 w.heap.size (fun _ => True) (.slice (some ad193) t189.length co40) y201 := (by rw [Ny201.out]; exact hbk60 hg (fun k_ e_ => by injection e_ with e_; subst e_; exact ge60_1.1 _ rfl) (k38_mkM _ _ _ (⟨(rd_T38 t189 t182).f0, y199⟩ : S38) hz_)); have hm_ := Kd.R_mono hz_ hok60; clear HP60 hbk60; replace HO_193000 := am (Kd.R_over' (v := (.slice (some ⟨go55, 0, none⟩) ((rd_T38 t189 t182).f1).length c198_1)) (zr HO_193000) (Kd.R_typed HL198_1.out) (by decide) hg); replace HO_193001 := am (hp_); replace BK180 := am (blk_grown (zk BK180) hg (Kd.R_ne HL198_1.out BK180.out (by decide))); replace BK181 := am (blk_grown (zk BK181) hg (Kd.R_ne HL198_1.out BK181.out (by decide))); replace BK192 := am (blk_grown (zk BK192) hg (Kd.R_ne HL198_1.out BK192.out (by decide))); replace HB := am ((by rw [hw]; exact below_set (HB.out) GB55.out : Below w.heap.size w w61)); have HL211 := am (hm_); have HC200 := am ((Kd.R_reads' hm_).2.1); clear HL198_1; clear hg hw hp_ hz_ hm_ hok60; have hcz62_0 := ce0 BK192; have hcz62_1 := ce1 BK192; have hfz62_0 := bfz BK192 0; have hfz62_1 := bfz BK192 1; obtain ⟨Ao63, co63, eo63⟩ := Kd.R_slice HO_193000.out; subst eo63; have hnb64 := NB181_180.out; have hnc64 := NB180_181.out; have hcz65_0 := ce0 BK181; have hcz65_1 := ce1 BK181; have hfz65_0 := bfz BK181 0; have hfz65_1 := bfz BK181 1))
     refine bodyPost_ret (results_ct rfl _ _ gb181 31 #[.slice Ao63 x193000_30.length co63, .slice (some ad193) t189.length co40] (0, 0) _ rfl (zp BK181) Try.underlying31 rfl (by kernel_rfl)) rfl ?_
     exact ⟨_, _, zw, (Kd.R_lower (base := w.heap.size) (by (with_reducible repeat (first | apply Kd.R_alloc | apply Kd.R_drewN | apply Kd.R_drew)); exact Kd.R_mono (Kd.R_far (p := ⟨gb181, 1, none⟩) (Kd.R_far (p := ⟨gb181, 0, none⟩) (Kd.R_types HO_193000.out BK181.out (by decide)) (fun _ hk => hk.2) (.slice Ao63 x193000_30.length co63)) (fun _ hk => hk.2) (.slice (some ad193) t189.length co40)) (fun _ hk => trivial)) hb_), (Kd.S_lower (base := w.heap.size) (by (with_reducible repeat (first | apply Kd.S_alloc | apply Kd.S_drewN | apply Kd.S_drew)); exact Kd.S_mono (Kd.S_far (p := ⟨gb181, 1, none⟩) (Kd.S_far (p := ⟨gb181, 0, none⟩) (Kd.S_types HO_193001.out BK181.out (by decide)) (fun _ hk => hk.2) (.slice Ao63 x193000_30.length co63)) (fun _ hk => hk.2) (.slice (some ad193) t189.length co40)) (fun _ hk => trivial)) hb_), (zb HB)⟩
   rw [if_neg c56] at H
   have c56b0 : (a3.toList == ([] : List UInt8)) = false := beq_eq_false_iff_ne.mpr c56
   have c56b1 : (a3.toList != ([] : List UInt8)) = true := bne_iff_ne.mpr c56
   replace H := obs H
   obtain ⟨⟨t202, t205, t206⟩, A660, H⟩ := H
   replace H : (if t206 = true then (if a2 < (((rd_T38 y201 t182).f1).length : Int) then (some (t202, (y201.set (t182 : Int).toNat (⟨(rd_T38 y201 t182).f0, (((rd_T38 y201 t182).f1).set (a2 : Int).toNat t205)⟩ : S38)), true)) else (none)) else (some (l0_0, l0_1, false))) = some (r1, r2, r3) := H
   have A66 := am A660
   clear A660
   by_cases c67 : t206 = true
   rotate_left
   · replace c67 := Bool.eq_false_iff.mpr c67
     subst c67
     have H1 : (some (l0_0, l0_1, false)) = some (r1, r2, r3) := by rw [if_neg (show ¬ (false = true) by decide)] at H; exact H
     clear H
     have H := H1
     clear H1
     simp only [Option.some.injEq, Prod.mk.injEq] at H
     obtain ⟨rfl, rfl, rfl⟩ := H
     have hnb87 := NB192_180.out
     have hnc87 := NB180_192.out
     have hnb88 := NB192_181.out
     have hnc88 := NB181_192.out
     have hcz89_0 := ce0 BK192
     have hcz89_1 := ce1 BK192
     have hfz89_0 := bfz BK192 0
     have hfz89_1 := bfz BK192 1
     have p198 : 0 ≤ (t182 : Int) := of_decide_eq_true zl
     have q198 : t182 < (t189.length : Int) := of_decide_eq_true zl
     obtain ⟨ad198, A198_1, c198_1, e198, hx198_0, hx198_1, hl198_1, hi198_1⟩ := at_T38 (Kd.S_reads' HO_193001.out).2.2 t182 p198 q198
     obtain rfl : ad193 = ad198 := (by injection e198)
     obtain ⟨ce198, hce198, hMe198, hcc198⟩ := Kd.S_get HO_193001.out z38 t182 p198 (by first | exact q198 | exact of_decide_eq_true zl | (have e_ := (Kd.S_reads' HO_193001.out).1; omega))
     obtain ⟨ve198_1, rfl, ge198_1⟩ := k38_openM hMe198
     have hv198_1 := hcc198 1 _ rfl
     rw [add_field _ _ 1 (by omega)] at hv198_1
     replace hv198_1 := Option.some.inj (hv198_1.symm.trans hx198_1)
     rw [hv198_1] at ge198_1
     have HL198_1 := am (show Kd.R (Kd.int .i64) 3 _ _ _ _ ((rd_T38 t189 t182).f1) from ge198_1)
     clear hv198_1 ge198_1
     have HX198_1 := am hx198_1
     clear hcc198 hce198
     have HR198_1 := am hi198_1
     have HC198_1 := am hl198_1
     clear hi198_1 hl198_1
     replace p198 := eq_true p198
     replace q198 := eq_true q198
     have p55 : 0 ≤ (a2 : Int) := of_decide_eq_true zl
     have q55 : (a2 : Int) < ((((rd_T38 t189 t182).f1).length : Int) : Int) := of_decide_eq_true zl
     obtain ⟨go55, co55, eo55, gb55, gl55, cl55, HG55⟩ := Kd.R_form HL198_1.out (by omega)
     (first | cases eo55 | (injection eo55 with ea_ en_ ec_; (first | subst ea_ | (injection ea_ with ea_; subst ea_)); subst ec_; clear en_))
     have GB55 := am gb55
     have GG55 := am HG55
     clear gb55 gl55 HG55
     obtain ⟨hx55_0, hf55_0⟩ := Kd.R_celln 0 HL198_1.out (a2 : Int) p55 q55
     replace p55 := eq_true p55
     replace q55 := eq_true q55
     have hq90 : (t182 : Int) < (t189.length : Int) := (by have h_ : (t182 : Int) < ((t189.length : Int) : Int) := of_decide_eq_true zl; first | exact h_ | (have e_ := (Kd.S_reads' HO_193001.out).1; omega) | simpa only [List.length_set, List.length_set] using h_)
     obtain ⟨oki90, ce90, hcl90, hM90, hcc90, hok90, hbk90⟩ := Kd.S_borrow HO_193001.out z38 (t182 : Int) (of_decide_eq_true zl) (by first | exact hq90 | (have e_ := (Kd.S_reads' HO_193001.out).1; have h_ := hq90; omega))
     obtain ⟨ve90_1, rfl, ge90_1⟩ := k38_openM hM90
     have hv90 := hcc90 1 _ rfl
     rw [add_field _ _ 1 (by omega)] at hv90
     replace hv90 := Option.some.inj (hv90.symm.trans HX198_1.out)
     subst hv90
     clear hcc90 hcl90
     replace ge90_1 := (show Kd.R (Kd.int .i64) 3 _ _ _ _ ((rd_T38 t189 t182).f1) from ge90_1)
     have HP90 := Kd.R_putg ge90_1 (a2 : Int) 0
     go_wp2_with (first | ((with_reducible refine gate_store (t := 3) (p := 65) rfl ?_); refine store_event (t := 3) (p := 65) (v := ?vo_w91) (w1 := (wc.setCell ⟨go55, (a2 : Int).toNat, none⟩ (.int .i64 0))) ?hg ?ho ?hn ?hr ?_; (case ho => rfl); (case hg => rfl); (case hn => rfl); (case hr => first | (go_simp; done) | (go_simp; rfl)); intro w91 hw; have hg : wc.grownBy w91 (some go55) := (by rw [hw]; exact HP90.2); have hz_ : Kd.R (Kd.int .i64) 3 w91 w.heap.size oki90 (.slice (some ⟨go55, 0, none⟩) ((rd_T38 t189 t182).f1).length c198_1) y199 := (by rw [hw, Ny199.out]; exact HP90.1); have hp_ : Kd.S k38 38 w91 w.heap.size (fun _ => True) (.slice (some ad193) t189.length co40) y201 := (by rw [Ny201.out]; exact hbk90 hg (fun k_ e_ => by injection e_ with e_; subst e_; exact ge90_1.1 _ rfl) (k38_mkM _ _ _ (⟨(rd_T38 t189 t182).f0, y199⟩ : S38) hz_)); have hm_ := Kd.R_mono hz_ hok90; clear HP90 hbk90; replace HO_193000 := am (Kd.R_over' (v := (.slice (some ⟨go55, 0, none⟩) ((rd_T38 t189 t182).f1).length c198_1)) (zr HO_193000) (Kd.R_typed HL198_1.out) (by decide) hg); replace HO_193001 := am (hp_); replace BK180 := am (blk_grown (zk BK180) hg (Kd.R_ne HL198_1.out BK180.out (by decide))); replace BK181 := am (blk_grown (zk BK181) hg (Kd.R_ne HL198_1.out BK181.out (by decide))); replace BK192 := am (blk_grown (zk BK192) hg (Kd.R_ne HL198_1.out BK192.out (by decide))); replace HB := am ((by rw [hw]; exact below_set (HB.out) GB55.out : Below w.heap.size w w91)); have HL214 := am (hm_); have HC200 := am ((Kd.R_reads' hm_).2.1); clear HL198_1; clear hg hw hp_ hz_ hm_ hok90; have hcz92_0 := ce0 BK192; have hcz92_1 := ce1 BK192; have hfz92_0 := bfz BK192 0; have hfz92_1 := bfz BK192 1; obtain ⟨Ao93, co93, eo93⟩ := Kd.R_slice HO_193000.out; subst eo93) | ((with_reducible refine gate_callee (f := 97) rfl ?_); refine gl Try.func97 73 #[.slice Ao93 x193000_30.length co93, .string a3] rfl rfl rfl ?_; (with_reducible refine (spec_l2Put.calls kj30 (fun k_ => some k_ = (.slice Ao93 x193000_30.length co93 : Value).ownBlock) (.slice Ao93 x193000_30.length co93) x193000_30 a3 t202 t205 false w _ ?side1 ?side2 A66.out).mono ?_); (case side1 => exact zb HB); (case side2 => exact Kd.R_tight rfl HO_193000.out); rintro e w94 ⟨v203, rfl, ho0, hb, hkp⟩; refine ⟨_, rfl, ?_⟩; replace HO_193001 := am (Kd.S_mono (ok' := fun k_ => True) (Kd.S_keptB ((Kd.S_apart' HO_193001.out (Kd.R_typed HO_193000.out) (by decide))) hkp (fun k_ hk_ hs_ => (hk_.2) hs_)) (fun k_ hk_ => trivial)); replace BK180 := am (blk_kept (zk BK180) hkp (fun hs_ => (fun e_ => (Kd.R_ne HO_193000.out BK180.out (by decide)) e_) hs_)); replace BK181 := am (blk_kept (zk BK181) hkp (fun hs_ => (fun e_ => (Kd.R_ne HO_193000.out BK181.out (by decide)) e_) hs_)); replace BK192 := am (blk_kept (zk BK192) hkp (fun hs_ => (fun e_ => (Kd.R_ne HO_193000.out BK192.out (by decide)) e_) hs_)); have HO204 := am (Kd.R_mono (ok' := fun k_ => True) ho0 (fun k_ hk_ => trivial)); replace HB := am (hb); clear HO_193000 HL214; (try clear hb); (try clear hkp); (try clear ho0); have hnb95 := NB180_181.out; have hnc95 := NB181_180.out; have hcz96_0 := ce0 BK180; have hcz96_1 := ce1 BK180; have hfz96_0 := bfz BK180 0; have hfz96_1 := bfz BK180 1; have hcz97_0 := ce0 BK181; have hcz97_1 := ce1 BK181; have hfz97_0 := bfz BK181 0; have hfz97_1 := bfz BK181 1))
     refine bodyPost_ret (results_ct rfl _ _ gb181 31 #[.slice A0_0 l0_0.length c0_0, .slice A0_1 l0_1.length c0_1] (0, 0) _ rfl (zp BK181) Try.underlying31 rfl (by kernel_rfl)) rfl ?_
     exact ⟨_, _, zw, (Kd.R_below hq0_0 (zb HB)), (Kd.S_below hq0_1 (zb HB)), (zb HB)⟩
   subst c67
   have H1 : (if a2 < (((rd_T38 y201 t182).f1).length : Int) then (some (t202, (y201.set (t182 : Int).toNat (⟨(rd_T38 y201 t182).f0, (((rd_T38 y201 t182).f1).set (a2 : Int).toNat t205)⟩ : S38)), true)) else (none)) = some (r1, r2, r3) := by rw [if_pos rfl] at H; exact H
   clear H
   have H := H1
   clear H1
   by_cases c68 : a2 < (((rd_T38 y201 t182).f1).length : Int)
   rotate_left
   · rw [if_neg c68] at H
     exact absurd H (by simp)
   rw [if_pos c68] at H
   have c68b0 : decide (a2 < (((rd_T38 y201 t182).f1).length : Int)) = true := decide_eq_true c68
   clear c68
   obtain ⟨y208, hy208⟩ : ∃ y_ : List Int, y_ = (((rd_T38 y201 t182).f1).set (a2 : Int).toNat t205) := ⟨_, rfl⟩
   replace H : (some (t202, (y201.set (t182 : Int).toNat (⟨(rd_T38 y201 t182).f0, y208⟩ : S38)), true)) = some (r1, r2, r3) := hY hy208 H
   have Ny208 := am hy208
   clear hy208
   obtain ⟨y210, hy210⟩ : ∃ y_ : List (S38), y_ = (y201.set (t182 : Int).toNat (⟨(rd_T38 y201 t182).f0, y208⟩ : S38)) := ⟨_, rfl⟩
   replace H : (some (t202, y210, true)) = some (r1, r2, r3) := hY hy210 H
   have Ny210 := am hy210
   clear hy210
   simp only [Option.some.injEq, Prod.mk.injEq] at H
   obtain ⟨rfl, rfl, rfl⟩ := H
   have hnb70 := NB192_180.out
   have hnc70 := NB180_192.out
   have hnb71 := NB192_181.out
   have hnc71 := NB181_192.out
   have hcz72_0 := ce0 BK192
   have hcz72_1 := ce1 BK192
   have hfz72_0 := bfz BK192 0
   have hfz72_1 := bfz BK192 1
   have p198 : 0 ≤ (t182 : Int) := of_decide_eq_true zl
   have q198 : t182 < (t189.length : Int) := of_decide_eq_true zl
   obtain ⟨ad198, A198_1, c198_1, e198, hx198_0, hx198_1, hl198_1, hi198_1⟩ := at_T38 (Kd.S_reads' HO_193001.out).2.2 t182 p198 q198
   obtain rfl : ad193 = ad198 := (by injection e198)
   obtain ⟨ce198, hce198, hMe198, hcc198⟩ := Kd.S_get HO_193001.out z38 t182 p198 (by first | exact q198 | exact of_decide_eq_true zl | (have e_ := (Kd.S_reads' HO_193001.out).1; omega))
   obtain ⟨ve198_1, rfl, ge198_1⟩ := k38_openM hMe198
   have hv198_1 := hcc198 1 _ rfl
   rw [add_field _ _ 1 (by omega)] at hv198_1
   replace hv198_1 := Option.some.inj (hv198_1.symm.trans hx198_1)
   rw [hv198_1] at ge198_1
   have HL198_1 := am (show Kd.R (Kd.int .i64) 3 _ _ _ _ ((rd_T38 t189 t182).f1) from ge198_1)
   clear hv198_1 ge198_1
   have HX198_1 := am hx198_1
   clear hcc198 hce198
   have HR198_1 := am hi198_1
   have HC198_1 := am hl198_1
   clear hi198_1 hl198_1
   replace p198 := eq_true p198
   replace q198 := eq_true q198
   have p55 : 0 ≤ (a2 : Int) := of_decide_eq_true zl
   have q55 : (a2 : Int) < ((((rd_T38 t189 t182).f1).length : Int) : Int) := of_decide_eq_true zl
   obtain ⟨go55, co55, eo55, gb55, gl55, cl55, HG55⟩ := Kd.R_form HL198_1.out (by omega)
   (first | cases eo55 | (injection eo55 with ea_ en_ ec_; (first | subst ea_ | (injection ea_ with ea_; subst ea_)); subst ec_; clear en_))
   have GB55 := am gb55
   have GG55 := am HG55
   clear gb55 gl55 HG55
   obtain ⟨hx55_0, hf55_0⟩ := Kd.R_celln 0 HL198_1.out (a2 : Int) p55 q55
   replace p55 := eq_true p55
   replace q55 := eq_true q55
   have hq73 : (t182 : Int) < (t189.length : Int) := (by have h_ : (t182 : Int) < ((t189.length : Int) : Int) := of_decide_eq_true zl; first | exact h_ | (have e_ := (Kd.S_reads' HO_193001.out).1; omega) | simpa only [List.length_set, List.length_set] using h_)
   obtain ⟨oki73, ce73, hcl73, hM73, hcc73, hok73, hbk73⟩ := Kd.S_borrow HO_193001.out z38 (t182 : Int) (of_decide_eq_true zl) (by first | exact hq73 | (have e_ := (Kd.S_reads' HO_193001.out).1; have h_ := hq73; omega))
   obtain ⟨ve73_1, rfl, ge73_1⟩ := k38_openM hM73
   have hv73 := hcc73 1 _ rfl
   rw [add_field _ _ 1 (by omega)] at hv73
   replace hv73 := Option.some.inj (hv73.symm.trans HX198_1.out)
   subst hv73
   clear hcc73 hcl73
   replace ge73_1 := (show Kd.R (Kd.int .i64) 3 _ _ _ _ ((rd_T38 t189 t182).f1) from ge73_1)
   have HP73 := Kd.R_putg ge73_1 (a2 : Int) 0
   go_wp2_with (first | ((with_reducible refine gate_store (t := 3) (p := 65) rfl ?_); refine store_event (t := 3) (p := 65) (v := ?vo_w74) (w1 := (wc.setCell ⟨go55, (a2 : Int).toNat, none⟩ (.int .i64 0))) ?hg ?ho ?hn ?hr ?_; (case ho => rfl); (case hg => rfl); (case hn => rfl); (case hr => first | (go_simp; done) | (go_simp; rfl)); intro w74 hw; have hg : wc.grownBy w74 (some go55) := (by rw [hw]; exact HP73.2); have hz_ : Kd.R (Kd.int .i64) 3 w74 w.heap.size oki73 (.slice (some ⟨go55, 0, none⟩) ((rd_T38 t189 t182).f1).length c198_1) y199 := (by rw [hw, Ny199.out]; exact HP73.1); have hp_ : Kd.S k38 38 w74 w.heap.size (fun _ => True) (.slice (some ad193) t189.length co40) y201 := (by rw [Ny201.out]; exact hbk73 hg (fun k_ e_ => by injection e_ with e_; subst e_; exact ge73_1.1 _ rfl) (k38_mkM _ _ _ (⟨(rd_T38 t189 t182).f0, y199⟩ : S38) hz_)); have hm_ := Kd.R_mono hz_ hok73; clear HP73 hbk73; replace HO_193000 := am (Kd.R_over' (v := (.slice (some ⟨go55, 0, none⟩) ((rd_T38 t189 t182).f1).length c198_1)) (zr HO_193000) (Kd.R_typed HL198_1.out) (by decide) hg); replace HO_193001 := am (hp_); replace BK180 := am (blk_grown (zk BK180) hg (Kd.R_ne HL198_1.out BK180.out (by decide))); replace BK181 := am (blk_grown (zk BK181) hg (Kd.R_ne HL198_1.out BK181.out (by decide))); replace BK192 := am (blk_grown (zk BK192) hg (Kd.R_ne HL198_1.out BK192.out (by decide))); replace HB := am ((by rw [hw]; exact below_set (HB.out) GB55.out : Below w.heap.size w w74)); have HL212 := am (hm_); have HC200 := am ((Kd.R_reads' hm_).2.1); clear HL198_1; clear hg hw hp_ hz_ hm_ hok73; have hcz75_0 := ce0 BK192; have hcz75_1 := ce1 BK192; have hfz75_0 := bfz BK192 0; have hfz75_1 := bfz BK192 1; obtain ⟨Ao76, co76, eo76⟩ := Kd.R_slice HO_193000.out; subst eo76) | ((with_reducible refine gate_callee (f := 97) rfl ?_); refine gl Try.func97 73 #[.slice Ao76 x193000_30.length co76, .string a3] rfl rfl rfl ?_; (with_reducible refine (spec_l2Put.calls kj30 (fun k_ => some k_ = (.slice Ao76 x193000_30.length co76 : Value).ownBlock) (.slice Ao76 x193000_30.length co76) x193000_30 a3 t202 t205 true w _ ?side1 ?side2 A66.out).mono ?_); (case side1 => exact zb HB); (case side2 => exact Kd.R_tight rfl HO_193000.out); rintro e w77 ⟨v203, rfl, ho0, hb, hkp⟩; refine ⟨_, rfl, ?_⟩; replace HO_193001 := am (Kd.S_mono (ok' := fun k_ => True) (Kd.S_keptB ((Kd.S_apart' HO_193001.out (Kd.R_typed HO_193000.out) (by decide))) hkp (fun k_ hk_ hs_ => (hk_.2) hs_)) (fun k_ hk_ => trivial)); replace BK180 := am (blk_kept (zk BK180) hkp (fun hs_ => (fun e_ => (Kd.R_ne HO_193000.out BK180.out (by decide)) e_) hs_)); replace BK181 := am (blk_kept (zk BK181) hkp (fun hs_ => (fun e_ => (Kd.R_ne HO_193000.out BK181.out (by decide)) e_) hs_)); replace BK192 := am (blk_kept (zk BK192) hkp (fun hs_ => (fun e_ => (Kd.R_ne HO_193000.out BK192.out (by decide)) e_) hs_)); have HO204 := am (Kd.R_mono (ok' := fun k_ => True) ho0 (fun k_ hk_ => trivial)); replace HB := am (hb); clear HO_193000 HL212; (try clear hb); (try clear hkp); (try clear ho0); obtain ⟨Ao78, co78, eo78⟩ := Kd.R_slice HO204.out; subst eo78; have hcz79_0 := ce0 BK192; have hcz79_1 := ce1 BK192; have hfz79_0 := bfz BK192 0; have hfz79_1 := bfz BK192 1) | ((with_reducible refine gate_store (t := 28) (p := 81) rfl ?_); refine store_event (t := 28) (p := 81) (v := ?vo_w80) (w1 := (w77.setCell ⟨gb192, 0, none⟩ (.slice Ao78 t202.length co78))) ?hg ?ho ?hn ?hr ?_; (case ho => rfl); (case hg => rfl); (case hn => rfl); (case hr => first | (go_simp; done) | (go_simp; rfl)); intro w80 hw; replace HO_193001 : Aside0 (Kd.S k38 38 w80 w.heap.size (fun _ => True) (.slice (some ad193) t189.length co40) y201) := ⟨(by rw [hw]; exact (by (with_reducible repeat (first | apply Kd.S_alloc | apply Kd.S_drewN | apply Kd.S_drew)); exact Kd.S_mono (Kd.S_far (p := ⟨gb192, 0, none⟩) (Kd.S_types HO_193001.out BK192.out (by decide)) (fun _ hk => hk.2) (.slice Ao78 t202.length co78)) (fun _ hk => trivial)))⟩; replace HO204 : Aside0 (Kd.R k55 55 w80 w.heap.size (fun _ => True) (.slice Ao78 t202.length co78) t202) := ⟨(by rw [hw]; exact (by (with_reducible repeat (first | apply Kd.R_alloc | apply Kd.R_drewN | apply Kd.R_drew)); exact Kd.R_mono (Kd.R_far (p := ⟨gb192, 0, none⟩) (Kd.R_types HO204.out BK192.out (by decide)) (fun _ hk => hk.2) (.slice Ao78 t202.length co78)) (fun _ hk => trivial)))⟩; replace BK180 : Aside0 (w80.heap[gb180]? = some (.cells #[.slice A0_0 l0_0.length c0_0, .slice A0_1 l0_1.length c0_1] 31 (0, 0))) := ⟨(by rw [hw]; exact (zk BK180))⟩; replace BK181 : Aside0 (w80.heap[gb181]? = some (.cells #[.slice none 0 0, .slice none 0 0] 31 (0, 0))) := ⟨(by rw [hw]; exact (zk BK181))⟩; replace BK192 : Aside0 (w80.heap[gb192]? = some (.cells #[.slice Ao78 t202.length co78, .slice (some ad193) t189.length co40] 31 (0, 0))) := ⟨(by rw [hw]; exact (zp BK192))⟩; replace HB : Aside0 (Below w.heap.size w w80) := ⟨(by rw [hw]; exact (zb HB))⟩; clear hw; have hcz81_0 := ce0 BK192; have hcz81_1 := ce1 BK192; have hfz81_0 := bfz BK192 0; have hfz81_1 := bfz BK192 1; have p207 : 0 ≤ (t182 : Int) := of_decide_eq_true zl; have q207 : t182 < (y201.length : Int) := (by have h_ : (t182 : Int) < ((t189.length : Int) : Int) := of_decide_eq_true zl; first | (have e_ := (Kd.S_reads' HO_193001.out).1; omega) | simpa only [Ny201.out, List.length_set] using h_); have ql207 : ((t182 : Int) < ((t189.length : Int) : Int)) = True := eq_true (of_decide_eq_true zl); obtain ⟨ad207, A207_1, c207_1, e207, hx207_0, hx207_1, hl207_1, hi207_1⟩ := at_T38 (Kd.S_reads' HO_193001.out).2.2 t182 p207 q207; obtain rfl : ad193 = ad207 := (by injection e207); obtain ⟨ce207, hce207, hMe207, hcc207⟩ := Kd.S_get HO_193001.out z38 t182 p207 (by first | exact q207 | exact of_decide_eq_true zl | (have e_ := (Kd.S_reads' HO_193001.out).1; omega)); obtain ⟨ve207_1, rfl, ge207_1⟩ := k38_openM hMe207; have hv207_1 := hcc207 1 _ rfl; rw [add_field _ _ 1 (by omega)] at hv207_1; replace hv207_1 := Option.some.inj (hv207_1.symm.trans hx207_1); rw [hv207_1] at ge207_1; have HL207_1 := am (show Kd.R (Kd.int .i64) 3 _ _ _ _ ((rd_T38 y201 t182).f1) from ge207_1); clear hv207_1 ge207_1; have HX207_1 := am hx207_1; clear hcc207 hce207; have HR207_1 := am hi207_1; have HC207_1 := am hl207_1; clear hi207_1 hl207_1; replace p207 := eq_true p207; replace q207 := eq_true q207; have p69 : 0 ≤ (a2 : Int) := of_decide_eq_true zl; have q69 : (a2 : Int) < ((((rd_T38 y201 t182).f1).length : Int) : Int) := of_decide_eq_true zl; obtain ⟨go69, co69, eo69, gb69, gl69, cl69, HG69⟩ := Kd.R_form HL207_1.out (by omega); (first | cases eo69 | (injection eo69 with ea_ en_ ec_; (first | subst ea_ | (injection ea_ with ea_; subst ea_)); subst ec_; clear en_)); have GB69 := am gb69; have GG69 := am HG69; clear gb69 gl69 HG69; obtain ⟨hx69_0, hf69_0⟩ := Kd.R_celln 0 HL207_1.out (a2 : Int) p69 q69; replace p69 := eq_true p69; replace q69 := eq_true q69; have hq82 : (t182 : Int) < (y201.length : Int) := (by have h_ : (t182 : Int) < ((t189.length : Int) : Int) := of_decide_eq_true zl; first | exact h_ | (have e_ := (Kd.S_reads' HO_193001.out).1; omega) | simpa only [Ny201.out, List.length_set] using h_); obtain ⟨oki82, ce82, hcl82, hM82, hcc82, hok82, hbk82⟩ := Kd.S_borrow HO_193001.out z38 (t182 : Int) (of_decide_eq_true zl) (by first | exact hq82 | (have e_ := (Kd.S_reads' HO_193001.out).1; have h_ := hq82; omega)); obtain ⟨ve82_1, rfl, ge82_1⟩ := k38_openM hM82; have hv82 := hcc82 1 _ rfl; rw [add_field _ _ 1 (by omega)] at hv82; replace hv82 := Option.some.inj (hv82.symm.trans HX207_1.out); subst hv82; clear hcc82 hcl82; replace ge82_1 := (show Kd.R (Kd.int .i64) 3 _ _ _ _ ((rd_T38 y201 t182).f1) from ge82_1); have HP82 := Kd.R_putg ge82_1 (a2 : Int) t205) | ((with_reducible refine gate_store (t := 3) (p := 90) rfl ?_); refine store_event (t := 3) (p := 90) (v := ?vo_w83) (w1 := (w80.setCell ⟨go69, (a2 : Int).toNat, none⟩ (.int .i64 t205))) ?hg ?ho ?hn ?hr ?_; (case ho => rfl); (case hg => rfl); (case hn => rfl); (case hr => first | (go_simp; done) | (go_simp; rfl)); intro w83 hw; have hg : w80.grownBy w83 (some go69) := (by rw [hw]; exact HP82.2); have hz_ : Kd.R (Kd.int .i64) 3 w83 w.heap.size oki82 (.slice (some ⟨go69, 0, none⟩) ((rd_T38 y201 t182).f1).length c207_1) y208 := (by rw [hw, Ny208.out]; exact HP82.1); have hp_ : Kd.S k38 38 w83 w.heap.size (fun _ => True) (.slice (some ad193) t189.length co40) y210 := (by rw [Ny210.out]; exact hbk82 hg (fun k_ e_ => by injection e_ with e_; subst e_; exact ge82_1.1 _ rfl) (k38_mkM _ _ _ (⟨(rd_T38 y201 t182).f0, y208⟩ : S38) hz_)); have hm_ := Kd.R_mono hz_ hok82; clear HP82 hbk82; replace HO_193001 := am (hp_); replace BK180 := am (blk_grown (zk BK180) hg (Kd.R_ne HL207_1.out BK180.out (by decide))); replace BK181 := am (blk_grown (zk BK181) hg (Kd.R_ne HL207_1.out BK181.out (by decide))); replace BK192 := am (blk_grown (zk BK192) hg (Kd.R_ne HL207_1.out BK192.out (by decide))); replace HO204 := am (Kd.R_over' (v := (.slice (some ⟨go69, 0, none⟩) ((rd_T38 y201 t182).f1).length c207_1)) (zr HO204) (Kd.R_typed HL207_1.out) (by decide) hg); replace HB := am ((by rw [hw]; exact below_set (HB.out) GB69.out : Below w.heap.size w w83)); have HL213 := am (hm_); have HC209 := am ((Kd.R_reads' hm_).2.1); clear HL207_1; clear hg hw hp_ hz_ hm_ hok82; have hcz84_0 := ce0 BK192; have hcz84_1 := ce1 BK192; have hfz84_0 := bfz BK192 0; have hfz84_1 := bfz BK192 1; have hnb85 := NB181_180.out; have hnc85 := NB180_181.out; have hcz86_0 := ce0 BK181; have hcz86_1 := ce1 BK181; have hfz86_0 := bfz BK181 0; have hfz86_1 := bfz BK181 1))
   refine bodyPost_ret (results_ct rfl _ _ gb181 31 #[.slice Ao78 t202.length co78, .slice (some ad193) t189.length co40] (0, 0) _ rfl (zp BK181) Try.underlying31 rfl (by kernel_rfl)) rfl ?_
   exact ⟨_, _, zw, (Kd.R_lower (base := w.heap.size) (by (with_reducible repeat (first | apply Kd.R_alloc | apply Kd.R_drewN | apply Kd.R_drew)); exact Kd.R_mono (Kd.R_far (p := ⟨gb181, 1, none⟩) (Kd.R_far (p := ⟨gb181, 0, none⟩) (Kd.R_types HO204.out BK181.out (by decide)) (fun _ hk => hk.2) (.slice Ao78 t202.length co78)) (fun _ hk => hk.2) (.slice (some ad193) t189.length co40)) (fun _ hk => trivial)) hb_), (Kd.S_lower (base := w.heap.size) (by (with_reducible repeat (first | apply Kd.S_alloc | apply Kd.S_drewN | apply Kd.S_drew)); exact Kd.S_mono (Kd.S_far (p := ⟨gb181, 1, none⟩) (Kd.S_far (p := ⟨gb181, 0, none⟩) (Kd.S_types HO_193001.out BK181.out (by decide)) (fun _ hk => hk.2) (.slice Ao78 t202.length co78)) (fun _ hk => hk.2) (.slice (some ad193) t189.length co40)) (fun _ hk => trivial)) hb_), (zb HB)⟩
end Go.Proofs.Ytooamacekmjpaaa.PFnVolForm
