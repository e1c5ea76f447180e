/- The walk: each function that the law comes to as a plain Lean function, and a proof that the Go code answers so. Written by this session's program over the kit's printer. -/
import Derived.Test.YtooamacekmjpaaaZ
import Derived.Test.YtooamacekmjpaaaQFnVolCount0
import Derived.Test.YtooamacekmjpaaaQFnVolCount1
namespace Go.Proofs.Ytooamacekmjpaaa.PFnVolCount
open Go.RowKit Go.Proofs.YtooamacekmjpaaaW.PrintWords Go.Proofs.YtooamacekmjpaaaW.PrintLast Go.Proofs.YtooamacekmjpaaaW.PrintMore
attribute [local go_sem] max2_int min2_int max_two min_two max_three min_three max_four min_four   -- for this text's walks alone
set_option linter.unusedVariables false
set_option linter.unusedSimpArgs false
/-! ### spec_l11Make: function 88 -/
def spec_l11Make.f (k : Nat) (l0_0 : List (S55)) (l0_1 : List (S38)) (a1 : ByteArray) (a2 : Int) : Option ((List (S55)) × (List (S38)) × Bool) := (spec_l3Name.f a1).bind fun t127 => (if t127 = true then ((spec_l6In.f a2 1 6).bind fun t128 => (if t128 = true then ((spec_l11At.f k l0_0 l0_1 a1).bind fun t129 => (if t129 ≥ 0 then (some (l0_0, l0_1, false)) else (if 0 ≤ a2 then (if (a2 : Int).toNat ≤ 35184372088832 then ((spec_l11Add.f l0_0 l0_1 a1 (List.replicate (a2 : Int).toNat 0)).bind fun bt133 => (some (bt133.1, bt133.2, true))) else (none)) else (none)))) else (some (l0_0, l0_1, false)))) else (some (l0_0, l0_1, false)))
theorem spec_l11Make.mono : ∀ a0 a1 a2 a3 k, LeO (spec_l11Make.f k a0 a1 a2 a3) (spec_l11Make.f (k + 1) a0 a1 a2 a3) := by
 intro a0 a1 a2 a3 k
 unfold spec_l11Make.f
 exact mo1 @spec_l11At.mono
def spec_l11Make.T3 : Bool × List (List Nat × List Nat) := (true, [([], []), ([], []), ([], []), ([2, 2], [2]), ([1, 3], [1, 3]), ([0, 4], [0, 4]), ([5, 5, 0, 1, 2, 3, 4, 5], [5]), ([6, 0, 1, 2, 3, 4, 5, 6], [])])
def spec_l11Make.B3 : List Nat := [0, 0, 0, 4, 14, 31, 63, 127]
theorem spec_l11Make.tab3 : rtab .any (opsOf Try.f88 3) = spec_l11Make.T3 := by kernel_rfl
theorem spec_l11Make.bits3 : waitsOk spec_l11Make.T3.2 spec_l11Make.B3 = true := by kernel_rfl
set_option maxHeartbeats 8000000 in
set_option maxRecDepth 100000 in
theorem spec_l11Make.calls (k : Nat) (A0_0 : Option Addr) (c0_0 : Nat) (l0_0 : List (S55)) (A0_1 : Option Addr) (c0_1 : Nat) (l0_1 : List (S38)) (a1 : ByteArray) (a2 : Int) (r1 : List (S55)) (r2 : List (S38)) (r3 : Bool) (w : World) (hr0_0 : Kd.C k55 w A0_0 l0_0.length l0_0) (hc0_0 : l0_0.length ≤ c0_0) (hr0_1 : Kd.C k38 w A0_1 l0_1.length l0_1) (hc0_1 : l0_1.length ≤ c0_1) (b_ : Nat) (hb_ : b_ ≤ w.heap.size) (hq0_0 : Kd.R k55 55 w b_ (fun _ => True) (.slice A0_0 l0_0.length c0_0) l0_0) (hq0_1 : Kd.S k38 38 w b_ (fun _ => True) (.slice A0_1 l0_1.length c0_1) l0_1) (h : spec_l11Make.f k l0_0 l0_1 a1 a2 = some (r1, r2, r3)) :
 Calls Try.prog 88 #[.agg #[.slice A0_0 l0_0.length c0_0, .slice A0_1 l0_1.length c0_1], .string a1, .int .i64 a2] w fun e w' => ∃ v0_ v1_ : Value, e = .returned (.tuple #[.agg #[v0_, v1_], .bool r3]) ∧ Kd.R k55 55 w' b_ (fun _ => True) v0_ r1 ∧ Kd.S k38 38 w' b_ (fun _ => True) v1_ r2 ∧ Below w.heap.size w w' := by
 have hu31 := Try.underlying31
 have hu38 := Try.underlying38
 have HR0_0 := am hr0_0
 have HC0_0 := am hc0_0
 clear hr0_0 hc0_0
 have HR0_1 := am hr0_1
 have HC0_1 := am hc0_1
 clear hr0_1 hc0_1
 have HB := am (Below.refl w.heap.size w)
 have H : ((spec_l3Name.f a1).bind fun t127 => (if t127 = true then ((spec_l6In.f a2 1 6).bind fun t128 => (if t128 = true then ((spec_l11At.f k l0_0 l0_1 a1).bind fun t129 => (if t129 ≥ 0 then (some (l0_0, l0_1, false)) else (if 0 ≤ a2 then (if (a2 : Int).toNat ≤ 35184372088832 then ((spec_l11Add.f l0_0 l0_1 a1 (List.replicate (a2 : Int).toNat 0)).bind fun bt133 => (some (bt133.1, bt133.2, true))) else (none)) else (none)))) else (some (l0_0, l0_1, false)))) else (some (l0_0, l0_1, false)))) = some (r1, r2, r3) := h
 clear h
 replace H := obs H
 obtain ⟨t127, A40, H⟩ := H
 replace H : (if t127 = true then ((spec_l6In.f a2 1 6).bind fun t128 => (if t128 = true then ((spec_l11At.f k l0_0 l0_1 a1).bind fun t129 => (if t129 ≥ 0 then (some (l0_0, l0_1, false)) else (if 0 ≤ a2 then (if (a2 : Int).toNat ≤ 35184372088832 then ((spec_l11Add.f l0_0 l0_1 a1 (List.replicate (a2 : Int).toNat 0)).bind fun bt133 => (some (bt133.1, bt133.2, true))) else (none)) else (none)))) else (some (l0_0, l0_1, false)))) else (some (l0_0, l0_1, false))) = some (r1, r2, r3) := H
 have A4 := am A40
 clear A40
 by_cases c5 : t127 = true
 rotate_left
 · replace c5 := Bool.eq_false_iff.mpr c5
   subst c5
   have H1 : (some (l0_0, l0_1, false)) = some (r1, r2, r3) := by rw [if_neg (show ¬ (false = true) by decide)] at H; exact H
   clear H
   have H := H1
   clear H1
   simp only [Option.some.injEq, Prod.mk.injEq] at H
   obtain ⟨rfl, rfl, rfl⟩ := H
   go_enter Try.func88, Try.ntmps88
   go_wp2_with (first | ((with_reducible refine gate_dst (N := 3) rfl ?_); refine bx 31 #[.slice A0_0 l0_0.length c0_0, .slice A0_1 l0_1.length c0_1] ?_; intro gb125 hg w39 hbox hb; have BK125 := am (hbox); have GW125 := am (zn hg (zb HB)); have GE125 := am (zn hg (zb HB)); replace HB := am (below_step (zb HB) hb); clear hb hbox hg) | ((with_reducible refine gate_dst (N := 6) rfl ?_); refine bx 31 #[.slice none 0 0, .slice none 0 0] ?_; intro gb126 hg w40 hbox hb; have BK126 := am (hbox); have GW126 := am (zn hg (zb HB)); have GE126 := am (zn hg (zb HB)); replace HB := am (below_step (zb HB) hb); have NB125_126 := am (zx hg (zk BK125)); have NB126_125 := am (zy hg (zk BK125)); replace BK125 := am (blk_below (zk BK125) hb); clear hb hbox hg) | ((with_reducible refine gate_callee (f := 56) rfl ?_); refine gl Try.func56 9 #[.string a1] rfl rfl rfl ?_; (with_reducible refine (spec_l3Name.calls a1 false _ A4.out).mono ?_); rintro e w' ⟨rfl, ⟨nd, rfl⟩⟩; refine ⟨_, rfl, ?_⟩; (try (rw [drewN_self w40]; generalize hq_ : World.drewN w40 _ = w40; replace BK125 : Aside0 (w40.heap[gb125]? = some (.cells #[.slice A0_0 l0_0.length c0_0, .slice A0_1 l0_1.length c0_1] 31 (0, 0))) := ⟨by rw [← hq_]; exact (zk BK125)⟩; replace BK126 : Aside0 (w40.heap[gb126]? = some (.cells #[.slice none 0 0, .slice none 0 0] 31 (0, 0))) := ⟨by rw [← hq_]; exact (zk BK126)⟩; replace HB : Aside0 (Below w.heap.size w w40) := ⟨by rw [← hq_]; exact (zb HB)⟩; clear hq_)); have hnb41 := NB125_126.out; have hnc41 := NB126_125.out; have hcz42_0 := ce0 BK125; have hcz42_1 := ce1 BK125; have hfz42_0 := bfz BK125 0; have hfz42_1 := bfz BK125 1; have hcz43_0 := ce0 BK126; have hcz43_1 := ce1 BK126; have hfz43_0 := bfz BK126 0; have hfz43_1 := bfz BK126 1))
   refine bodyPost_ret (results_ct rfl _ _ gb126 31 #[.slice A0_0 l0_0.length c0_0, .slice A0_1 l0_1.length c0_1] (0, 0) _ rfl (zp BK126) Try.underlying31 rfl (by kernel_rfl)) rfl ?_
   exact ⟨_, _, zw, (Kd.R_below hq0_0 (zb HB)), (Kd.S_below hq0_1 (zb HB)), (zb HB)⟩
 subst c5
 have H1 : ((spec_l6In.f a2 1 6).bind fun t128 => (if t128 = true then ((spec_l11At.f k l0_0 l0_1 a1).bind fun t129 => (if t129 ≥ 0 then (some (l0_0, l0_1, false)) else (if 0 ≤ a2 then (if (a2 : Int).toNat ≤ 35184372088832 then ((spec_l11Add.f l0_0 l0_1 a1 (List.replicate (a2 : Int).toNat 0)).bind fun bt133 => (some (bt133.1, bt133.2, true))) else (none)) else (none)))) else (some (l0_0, l0_1, false)))) = some (r1, r2, r3) := by rw [if_pos rfl] at H; exact H
 clear H
 have H := H1
 clear H1
 replace H := obs H
 obtain ⟨t128, A60, H⟩ := H
 replace H : (if t128 = true then ((spec_l11At.f k l0_0 l0_1 a1).bind fun t129 => (if t129 ≥ 0 then (some (l0_0, l0_1, false)) else (if 0 ≤ a2 then (if (a2 : Int).toNat ≤ 35184372088832 then ((spec_l11Add.f l0_0 l0_1 a1 (List.replicate (a2 : Int).toNat 0)).bind fun bt133 => (some (bt133.1, bt133.2, true))) else (none)) else (none)))) else (some (l0_0, l0_1, false))) = some (r1, r2, r3) := H
 have A6 := am A60
 clear A60
 by_cases c7 : t128 = true
 rotate_left
 · replace c7 := Bool.eq_false_iff.mpr c7
   subst c7
   have H1 : (some (l0_0, l0_1, false)) = some (r1, r2, r3) := by rw [if_neg (show ¬ (false = true) by decide)] at H; exact H
   clear H
   have H := H1
   clear H1
   simp only [Option.some.injEq, Prod.mk.injEq] at H
   obtain ⟨rfl, rfl, rfl⟩ := H
   go_enter Try.func88, Try.ntmps88
   go_wp2_with (first | ((with_reducible refine gate_dst (N := 3) rfl ?_); refine bx 31 #[.slice A0_0 l0_0.length c0_0, .slice A0_1 l0_1.length c0_1] ?_; intro gb125 hg w34 hbox hb; have BK125 := am (hbox); have GW125 := am (zn hg (zb HB)); have GE125 := am (zn hg (zb HB)); replace HB := am (below_step (zb HB) hb); clear hb hbox hg) | ((with_reducible refine gate_dst (N := 6) rfl ?_); refine bx 31 #[.slice none 0 0, .slice none 0 0] ?_; intro gb126 hg w35 hbox hb; have BK126 := am (hbox); have GW126 := am (zn hg (zb HB)); have GE126 := am (zn hg (zb HB)); replace HB := am (below_step (zb HB) hb); have NB125_126 := am (zx hg (zk BK125)); have NB126_125 := am (zy hg (zk BK125)); replace BK125 := am (blk_below (zk BK125) hb); clear hb hbox hg) | ((with_reducible refine gate_callee (f := 56) rfl ?_); refine gl Try.func56 9 #[.string a1] rfl rfl rfl ?_; (with_reducible refine (spec_l3Name.calls a1 true _ A4.out).mono ?_); rintro e w' ⟨rfl, ⟨nd, rfl⟩⟩; refine ⟨_, rfl, ?_⟩; (try (rw [drewN_self w35]; generalize hq_ : World.drewN w35 _ = w35; replace BK125 : Aside0 (w35.heap[gb125]? = some (.cells #[.slice A0_0 l0_0.length c0_0, .slice A0_1 l0_1.length c0_1] 31 (0, 0))) := ⟨by rw [← hq_]; exact (zk BK125)⟩; replace BK126 : Aside0 (w35.heap[gb126]? = some (.cells #[.slice none 0 0, .slice none 0 0] 31 (0, 0))) := ⟨by rw [← hq_]; exact (zk BK126)⟩; replace HB : Aside0 (Below w.heap.size w w35) := ⟨by rw [← hq_]; exact (zb HB)⟩; clear hq_))) | (go_at_call 55; (with_reducible refine (spec_l6In.calls a2 1 6 false _ A6.out).mono ?_); rintro e w' ⟨rfl, ⟨nd, rfl⟩⟩; (try (rw [drewN_self w35]; generalize hq_ : World.drewN w35 _ = w35; replace BK125 : Aside0 (w35.heap[gb125]? = some (.cells #[.slice A0_0 l0_0.length c0_0, .slice A0_1 l0_1.length c0_1] 31 (0, 0))) := ⟨by rw [← hq_]; exact (zk BK125)⟩; replace BK126 : Aside0 (w35.heap[gb126]? = some (.cells #[.slice none 0 0, .slice none 0 0] 31 (0, 0))) := ⟨by rw [← hq_]; exact (zk BK126)⟩; replace HB : Aside0 (Below w.heap.size w w35) := ⟨by rw [← hq_]; exact (zb HB)⟩; clear hq_)); have hnb36 := NB125_126.out; have hnc36 := NB126_125.out; have hcz37_0 := ce0 BK125; have hcz37_1 := ce1 BK125; have hfz37_0 := bfz BK125 0; have hfz37_1 := bfz BK125 1; have hcz38_0 := ce0 BK126; have hcz38_1 := ce1 BK126; have hfz38_0 := bfz BK126 0; have hfz38_1 := bfz BK126 1))
   refine bodyPost_ret (results_ct rfl _ _ gb126 31 #[.slice A0_0 l0_0.length c0_0, .slice A0_1 l0_1.length c0_1] (0, 0) _ rfl (zp BK126) Try.underlying31 rfl (by kernel_rfl)) rfl ?_
   exact ⟨_, _, zw, (Kd.R_below hq0_0 (zb HB)), (Kd.S_below hq0_1 (zb HB)), (zb HB)⟩
 subst c7
 have H1 : ((spec_l11At.f k l0_0 l0_1 a1).bind fun t129 => (if t129 ≥ 0 then (some (l0_0, l0_1, false)) else (if 0 ≤ a2 then (if (a2 : Int).toNat ≤ 35184372088832 then ((spec_l11Add.f l0_0 l0_1 a1 (List.replicate (a2 : Int).toNat 0)).bind fun bt133 => (some (bt133.1, bt133.2, true))) else (none)) else (none)))) = some (r1, r2, r3) := by rw [if_pos rfl] at H; exact H
 clear H
 have H := H1
 clear H1
 replace H := obs H
 obtain ⟨t129, A80, H⟩ := H
 replace H : (if t129 ≥ 0 then (some (l0_0, l0_1, false)) else (if 0 ≤ a2 then (if (a2 : Int).toNat ≤ 35184372088832 then ((spec_l11Add.f l0_0 l0_1 a1 (List.replicate (a2 : Int).toNat 0)).bind fun bt133 => (some (bt133.1, bt133.2, true))) else (none)) else (none))) = some (r1, r2, r3) := H
 have A8 := am A80
 clear A80
 by_cases c9 : t129 ≥ 0
 · rw [if_pos c9] at H
   have c9b0 : decide (0 ≤ t129) = true := decide_eq_true c9
   clear c9
   simp only [Option.some.injEq, Prod.mk.injEq] at H
   obtain ⟨rfl, rfl, rfl⟩ := H
   go_enter Try.func88, Try.ntmps88
   go_wp2_with (first | ((with_reducible refine gate_dst (N := 3) rfl ?_); refine bx 31 #[.slice A0_0 l0_0.length c0_0, .slice A0_1 l0_1.length c0_1] ?_; intro gb125 hg w10 hbox hb; have BK125 := am (hbox); have GW125 := am (zn hg (zb HB)); have GE125 := am (zn hg (zb HB)); replace HB := am (below_step (zb HB) hb); clear hb hbox hg) | ((with_reducible refine gate_dst (N := 6) rfl ?_); refine bx 31 #[.slice none 0 0, .slice none 0 0] ?_; intro gb126 hg w11 hbox hb; have BK126 := am (hbox); have GW126 := am (zn hg (zb HB)); have GE126 := am (zn hg (zb HB)); replace HB := am (below_step (zb HB) hb); have NB125_126 := am (zx hg (zk BK125)); have NB126_125 := am (zy hg (zk BK125)); replace BK125 := am (blk_below (zk BK125) hb); clear hb hbox hg) | ((with_reducible refine gate_callee (f := 56) rfl ?_); refine gl Try.func56 9 #[.string a1] rfl rfl rfl ?_; (with_reducible refine (spec_l3Name.calls a1 true _ A4.out).mono ?_); rintro e w' ⟨rfl, ⟨nd, rfl⟩⟩; refine ⟨_, rfl, ?_⟩; (try (rw [drewN_self w11]; generalize hq_ : World.drewN w11 _ = w11; replace BK125 : Aside0 (w11.heap[gb125]? = some (.cells #[.slice A0_0 l0_0.length c0_0, .slice A0_1 l0_1.length c0_1] 31 (0, 0))) := ⟨by rw [← hq_]; exact (zk BK125)⟩; replace BK126 : Aside0 (w11.heap[gb126]? = some (.cells #[.slice none 0 0, .slice none 0 0] 31 (0, 0))) := ⟨by rw [← hq_]; exact (zk BK126)⟩; replace HB : Aside0 (Below w.heap.size w w11) := ⟨by rw [← hq_]; exact (zb HB)⟩; clear hq_))) | (go_at_call 55; (with_reducible refine (spec_l6In.calls a2 1 6 true _ A6.out).mono ?_); rintro e w' ⟨rfl, ⟨nd, rfl⟩⟩; (try (rw [drewN_self w11]; generalize hq_ : World.drewN w11 _ = w11; replace BK125 : Aside0 (w11.heap[gb125]? = some (.cells #[.slice A0_0 l0_0.length c0_0, .slice A0_1 l0_1.length c0_1] 31 (0, 0))) := ⟨by rw [← hq_]; exact (zk BK125)⟩; replace BK126 : Aside0 (w11.heap[gb126]? = some (.cells #[.slice none 0 0, .slice none 0 0] 31 (0, 0))) := ⟨by rw [← hq_]; exact (zk BK126)⟩; replace HB : Aside0 (Below w.heap.size w w11) := ⟨by rw [← hq_]; exact (zb HB)⟩; clear hq_)); have hnb12 := NB125_126.out; have hnc12 := NB126_125.out; have hcz13_0 := ce0 BK125; have hcz13_1 := ce1 BK125; have hfz13_0 := bfz BK125 0; have hfz13_1 := bfz BK125 1) | (go_at_call 57; (with_reducible refine (spec_l11At.calls k _ _ l0_0 _ _ l0_1 a1 t129 _ ?side1 ?side2 ?side3 ?side4 A8.out).mono ?_); (case side1 => exact zc (Kd.C_below HR0_0.out HB.out)); (case side2 => exact HC0_0.out); (case side3 => exact zc (Kd.C_below HR0_1.out HB.out)); (case side4 => exact HC0_1.out); rintro e w14 ⟨rfl, hb⟩; replace BK125 := am (blk_below (zk BK125) hb); replace BK126 := am (blk_below (zk BK126) hb); replace HB := am (below_step (zb HB) hb); (try clear hb); (try clear hb2); (try clear hk); (try clear hi); have hcz15_0 := ce0 BK125; have hcz15_1 := ce1 BK125; have hfz15_0 := bfz BK125 0; have hfz15_1 := bfz BK125 1; have hcz16_0 := ce0 BK126; have hcz16_1 := ce1 BK126; have hfz16_0 := bfz BK126 0; have hfz16_1 := bfz BK126 1))
   refine bodyPost_ret (results_ct rfl _ _ gb126 31 #[.slice A0_0 l0_0.length c0_0, .slice A0_1 l0_1.length c0_1] (0, 0) _ rfl (zp BK126) Try.underlying31 rfl (by kernel_rfl)) rfl ?_
   exact ⟨_, _, zw, (Kd.R_below hq0_0 (zb HB)), (Kd.S_below hq0_1 (zb HB)), (zb HB)⟩
 rw [if_neg c9] at H
 have c9b0 : decide (0 ≤ t129) = false := decide_eq_false c9
 clear c9
 by_cases c17 : 0 ≤ a2
 rotate_left
 · rw [if_neg c17] at H
   exact absurd H (by simp)
 rw [if_pos c17] at H
 have c17b0 := eq_true c17
 have c17b1 : decide (0 ≤ a2) = true := decide_eq_true c17
 clear c17
 by_cases c18 : (a2 : Int).toNat ≤ 35184372088832
 rotate_left
 · rw [if_neg c18] at H
   exact absurd H (by simp)
 rw [if_pos c18] at H
 have c18b0 := eq_true c18
 have c18b1 : decide ((a2 : Int).toNat ≤ 35184372088832) = true := decide_eq_true c18
 clear c18
 obtain ⟨y130, hy130⟩ : ∃ y_ : List Int, y_ = (List.replicate (a2 : Int).toNat 0) := ⟨_, rfl⟩
 replace H : ((spec_l11Add.f l0_0 l0_1 a1 y130).bind fun bt133 => (some (bt133.1, bt133.2, true))) = some (r1, r2, r3) := hY hy130 H
 have Ny130 := am hy130
 clear hy130
 replace H := obs H
 obtain ⟨⟨t133, t136⟩, A190, H⟩ := H
 replace H : (some (t133, t136, true)) = some (r1, r2, r3) := H
 have A19 := am A190
 clear A190
 simp only [Option.some.injEq, Prod.mk.injEq] at H
 obtain ⟨rfl, rfl, rfl⟩ := H
 go_enter Try.func88, Try.ntmps88
 try go_wp2_with (first | ((with_reducible refine gate_dst (N := 3) rfl ?_); refine bx 31 #[.slice A0_0 l0_0.length c0_0, .slice A0_1 l0_1.length c0_1] ?_; intro gb125 hg w20 hbox hb; have BK125 := am (hbox); have GW125 := am (zn hg (zb HB)); have GE125 := am (zn hg (zb HB)); replace HB := am (below_step (zb HB) hb); clear hb hbox hg) | ((with_reducible refine gate_dst (N := 6) rfl ?_); refine bx 31 #[.slice none 0 0, .slice none 0 0] ?_; intro gb126 hg w21 hbox hb; have BK126 := am (hbox); have GW126 := am (zn hg (zb HB)); have GE126 := am (zn hg (zb HB)); replace HB := am (below_step (zb HB) hb); have NB125_126 := am (zx hg (zk BK125)); have NB126_125 := am (zy hg (zk BK125)); replace BK125 := am (blk_below (zk BK125) hb); clear hb hbox hg) | ((with_reducible refine gate_callee (f := 56) rfl ?_); refine gl Try.func56 9 #[.string a1] rfl rfl rfl ?_; (with_reducible refine (spec_l3Name.calls a1 true _ A4.out).mono ?_); rintro e w' ⟨rfl, ⟨nd, rfl⟩⟩; refine ⟨_, rfl, ?_⟩; (try (rw [drewN_self w21]; generalize hq_ : World.drewN w21 _ = w21; replace BK125 : Aside0 (w21.heap[gb125]? = some (.cells #[.slice A0_0 l0_0.length c0_0, .slice A0_1 l0_1.length c0_1] 31 (0, 0))) := ⟨by rw [← hq_]; exact (zk BK125)⟩; replace BK126 : Aside0 (w21.heap[gb126]? = some (.cells #[.slice none 0 0, .slice none 0 0] 31 (0, 0))) := ⟨by rw [← hq_]; exact (zk BK126)⟩; replace HB : Aside0 (Below w.heap.size w w21) := ⟨by rw [← hq_]; exact (zb HB)⟩; clear hq_))) | (go_at_call 55; (with_reducible refine (spec_l6In.calls a2 1 6 true _ A6.out).mono ?_); rintro e w' ⟨rfl, ⟨nd, rfl⟩⟩; (try (rw [drewN_self w21]; generalize hq_ : World.drewN w21 _ = w21; replace BK125 : Aside0 (w21.heap[gb125]? = some (.cells #[.slice A0_0 l0_0.length c0_0, .slice A0_1 l0_1.length c0_1] 31 (0, 0))) := ⟨by rw [← hq_]; exact (zk BK125)⟩; replace BK126 : Aside0 (w21.heap[gb126]? = some (.cells #[.slice none 0 0, .slice none 0 0] 31 (0, 0))) := ⟨by rw [← hq_]; exact (zk BK126)⟩; replace HB : Aside0 (Below w.heap.size w w21) := ⟨by rw [← hq_]; exact (zb HB)⟩; clear hq_)); have hnb22 := NB125_126.out; have hnc22 := NB126_125.out; have hcz23_0 := ce0 BK125; have hcz23_1 := ce1 BK125; have hfz23_0 := bfz BK125 0; have hfz23_1 := bfz BK125 1) | (go_at_call 57; (with_reducible refine (spec_l11At.calls k _ _ l0_0 _ _ l0_1 a1 t129 _ ?side1 ?side2 ?side3 ?side4 A8.out).mono ?_); (case side1 => exact zc (Kd.C_below HR0_0.out HB.out)); (case side2 => exact HC0_0.out); (case side3 => exact zc (Kd.C_below HR0_1.out HB.out)); (case side4 => exact HC0_1.out); rintro e w24 ⟨rfl, hb⟩; replace BK125 := am (blk_below (zk BK125) hb); replace BK126 := am (blk_below (zk BK126) hb); replace HB := am (below_step (zb HB) hb); (try clear hb); (try clear hb2); (try clear hk); (try clear hi)))
 replace BK125 := am (blk_drew BK125.out)
 replace BK126 := am (blk_drew BK126.out)
 replace HB := am (below_drew1 HB.out)
 refine start_ (n := 8) (S := fun w' => w'.cell? ⟨gb125, 0, none⟩ = some (.slice A0_0 l0_0.length c0_0) ∧ w'.cell? ⟨gb125, 1, none⟩ = some (.slice A0_1 l0_1.length c0_1)) (ds := []) (bs 8 0) (by kernel_rfl) rfl rfl ⟨ce0 BK125, ce1 BK125⟩ (fun hHeld => ?_); refine with_tabW spec_l11Make.tab3 spec_l11Make.bits3 (fun HT_ HW_ => ?_)
 generalize w24.drew = w25 at BK125 BK126 HB hHeld ⊢
 refine pu 1 24 8 2 rfl rfl ?_
 refine pu 2 25 8 6 rfl rfl ?_
 refine ta2 0 23 8 7 rfl rfl hHeld ?_
 refine oz 3 8 15 rfl rfl (fun K hK => ?_)
 refine Kd.R_make_step (Kd.int .i64) _ 3 (by rfl) (N := 26) rfl 36 _ _ rfl a2 rfl rfl Try.underlying36 (.int .i64 0) 8 info3 rfl (by decide) (by omega) 0 (ok := fun _ => True) (okp := fun _ => True) rfl (fun _ hk => hk) trivial (of_decide_eq_true zl) (Nat.le_trans (Nat.mul_le_mul_right _ (of_decide_eq_true zl : a2.toNat ≤ 35184372088832)) (by omega)) (Below.refl _ _) (Nat.le_refl _) ?_
 intro v131 w26 ho27 hb hg_ hnew_
 clear hg_ hnew_
 (first | rw [← Ny130.out] at ho27 | (simp only [Int.reduceToNat] at ho27; rw [← Ny130.out] at ho27))
 have HO132 := am (Kd.R_lower ho27 (below_size (zb HB)))
 replace BK125 := am (blk_below (zk BK125) hb)
 replace BK126 := am (blk_below (zk BK126) hb)
 replace HB := am (below_step (zb HB) hb)
 clear hb ho27
 obtain ⟨Ao28, co28, eo28⟩ := Kd.R_slice HO132.out
 (first | subst eo28 | (injection eo28 with f1_ f2_ f3_; have f4_ := f1_.symm; have f5_ := f3_.symm; clear f1_ f2_ f3_; subst f4_; subst f5_))
 refine hK.out _ _ ⟨ce0 BK125, ce1 BK125⟩ (fun hHeld => ?_)
 clear hK K
 refine norm_ (a' := ?_) ?_ ?_
 rotate_left
 · show Act.put _ (some 26) _ = _
   simp only [Act.put, List.setIfInBounds_toArray, List.set_cons_zero, List.set_cons_succ, i64_w, i32_w]
   rfl
 refine pu 4 27 8 31 rfl rfl ?_
 refine oz 5 8 63 rfl rfl (fun K hK => ?_)
 refine gs Try.func95 #[.agg #[.slice A0_0 l0_0.length c0_0, .slice A0_1 l0_1.length c0_1], .agg #[.string a1, .slice Ao28 y130.length co28]] rfl rfl ?_
 with_reducible refine (spec_l11Add.calls _ _ l0_0 _ _ l0_1 a1 _ _ y130 t133 t136 _ ?side1 ?side2 ?side3 ?side4 ?side5 ?side6 A19.out b_ ?sb (fun _ => True) (fun k => w.heap.size ≤ k) ?sq ?sS ?sv).mono ?_
 (case side1 => exact zc (Kd.C_below HR0_0.out HB.out))
 (case side2 => exact HC0_0.out)
 (case side3 => exact zc (Kd.C_below HR0_1.out HB.out))
 (case side4 => exact HC0_1.out)
 (case side5 => exact zc (Kd.R_reads' HO132.out).2.2)
 (case side6 => exact (Kd.R_reads' HO132.out).2.1)
 (case sb => exact Nat.le_trans hb_ (below_size (show Below w.heap.size w _ from (zb HB))))
 (case sq => exact Kd.R_below hq0_0 (zb HB))
 (case sS => exact Kd.S_mono (Kd.S_below (Kd.S_bound hq0_1) (zb HB)) (fun k hk h2 => Nat.not_le.2 hk.2.2.1 h2))
 (case sv => exact Kd.R_lower (Kd.R_mono (Kd.R_bound (base := w.heap.size) (zr HO132)) (fun k hk => hk.2.1)) hb_)
 rintro e w29 ⟨v134, v137, rfl, ho0, ho1, hb⟩
 refine ⟨_, rfl, ?_⟩
 replace HO132 := am (Kd.R_below (zr HO132) hb)
 have HO135 := am (ho0)
 have HO138 := am (ho1)
 replace BK125 := am (blk_below (zk BK125) hb)
 replace BK126 := am (blk_below (zk BK126) hb)
 replace HB := am (below_step (zb HB) hb)
 (try clear hb)
 (try clear hb2)
 (try clear hk)
 (try clear hi)
 (try clear ho0)
 (try clear ho1)
 obtain ⟨Ao30, co30, eo30⟩ := Kd.R_slice HO135.out
 (first | subst eo30 | (injection eo30 with f1_ f2_ f3_; have f4_ := f1_.symm; have f5_ := f3_.symm; clear f1_ f2_ f3_; subst f4_; subst f5_))
 obtain ⟨Ao32, co32, eo32⟩ := Kd.S_slice HO138.out
 (first | subst eo32 | (injection eo32 with f1_ f2_ f3_; have f4_ := f1_.symm; have f5_ := f3_.symm; clear f1_ f2_ f3_; subst f4_; subst f5_))
 refine hK.out _ _ ⟨ce0 BK125, ce1 BK125⟩ (fun hHeld => ?_)
 clear hK K
 refine norm_ (a' := ?_) ?_ ?_
 rotate_left
 · show Act.put _ (some 28) _ = _
   simp only [Act.put, List.setIfInBounds_toArray, List.set_cons_zero, List.set_cons_succ, i64_w, i32_w]
   rfl
 refine oz 6 8 127 rfl rfl (fun K hK => ?_)
 have hs31 := ce0 BK126
 have hfs31 := bfz BK126 0
 have hns31_0 := NB125_126.out
 have hms31_0 := NB126_125.out
 have hs33 := ce1 BK126
 have hfs33 := bfz BK126 1
 have hns33_0 := NB125_126.out
 have hms33_0 := NB126_125.out
 refine skip_ (w1 := ?_) (by rfl) rfl ?_ ?_
 rotate_left
 · go_simp
   rfl
 refine hK.out _ _ ⟨((cell_far (p := ⟨gb126, _, none⟩) NB125_126.out _).trans (((cell_far (p := ⟨gb126, _, none⟩) NB125_126.out _).trans (hHeld.1)))), ((cell_far (p := ⟨gb126, _, none⟩) NB125_126.out _).trans (((cell_far (p := ⟨gb126, _, none⟩) NB125_126.out _).trans (hHeld.2))))⟩ (fun hHeld => ?_)
 clear hK K
 refine pu 7 7 8 255 rfl rfl ?_
 refine done_ (done_of HT_.out (by kernel_rfl)) ?_
 try go_wp2
 refine bodyPost_ret (results_ct rfl _ _ gb126 31 #[.slice Ao30 t133.length co30, .slice Ao32 t136.length co32] (0, 0) _ rfl (zp BK126) Try.underlying31 rfl (by kernel_rfl)) rfl ?_
 exact ⟨_, _, zw, (by (with_reducible repeat (first | apply Kd.R_alloc | apply Kd.R_drewN | apply Kd.R_drew)); exact Kd.R_mono (Kd.R_far (p := ⟨gb126, 1, none⟩) (Kd.R_far (p := ⟨gb126, 0, none⟩) (Kd.R_types HO135.out BK126.out (by decide)) (fun _ hk => hk.2) (.slice Ao30 t133.length co30)) (fun _ hk => hk.2) (.slice Ao32 t136.length co32)) (fun _ hk => trivial)), (by (with_reducible repeat (first | apply Kd.S_alloc | apply Kd.S_drewN | apply Kd.S_drew)); exact Kd.S_mono (Kd.S_far (p := ⟨gb126, 1, none⟩) (Kd.S_far (p := ⟨gb126, 0, none⟩) (Kd.S_types HO138.out BK126.out (by decide)) (fun _ hk => hk.2) (.slice Ao30 t133.length co30)) (fun _ hk => hk.2) (.slice Ao32 t136.length co32)) (fun _ hk => trivial)), (zb HB)⟩
/-! ### spec_TextOk: function 65 -/
def spec_TextOk.l0 : Nat → ByteArray → Int → Option (Bool)
 | 0, _, _ => none
 | k + 1, x0, x3 => if x3 < (x0.size : Int) then (if 0 ≤ x3 then ((spec_l6In.f (wrap64 (bt x0 x3)) 97 100).bind fun t139 => (if t139 = true then (spec_TextOk.l0 k x0 (wrap64 (x3 + 1))) else (some false))) else (none)) else (some (decide ((x0.size : Int) ≤ 4)))
def spec_TextOk.f (k : Nat) (a0 : ByteArray) : Option (Bool) := spec_TextOk.l0 k a0 0
theorem spec_TextOk.mono_l : ∀ k, (∀ y0 y1, LeO (spec_TextOk.l0 k y0 y1) (spec_TextOk.l0 (k + 1) y0 y1))
 | 0 => fun _ _ r h => by simp [spec_TextOk.l0] at h
 | k + 1 => by
  have ih0 := spec_TextOk.mono_l k
  intro y0 y1
  unfold spec_TextOk.l0
  exact mo1 ih0
theorem spec_TextOk.mono : ∀ a0 k, LeO (spec_TextOk.f k a0) (spec_TextOk.f (k + 1) a0) := by
 intro a0 k
 have ih0 := spec_TextOk.mono_l k
 unfold spec_TextOk.f
 exact mo1 ih0
set_option maxHeartbeats 8000000 in
set_option maxRecDepth 100000 in
theorem spec_TextOk.calls (k : Nat) (a0 : ByteArray) (r : Bool) (w : World) (h : spec_TextOk.f k a0 = some r) :
 Calls Try.prog 65 #[.string a0] w fun e w' => e = .returned (.bool r) ∧ Drawn0 w w' := by
 have H : (spec_TextOk.l0 k a0 0) = some r := h
 clear h
 have H' := am H
 clear H
 go_enter Try.func65, Try.ntmps65
 go_wp2
 go_loopg [3] k (fun kq v3 w' => ∃ (x3_1 : Int), v3 = .int .i64 x3_1 ∧ Aside0 (spec_TextOk.l0 kq a0 x3_1 = some r) ∧ Aside0 (kq ≤ k) ∧ Drawn0 w w')
 case atStart => exact ⟨(0), ze, H', ⟨Nat.le_refl _⟩, by repeat (first | exact Drawn0.refl _ | apply Drawn0.step)⟩
 case round =>
  clear H'
  obtain ⟨x3_1, rfl, HA, HK1, ⟨m1, rfl⟩⟩ := hrel
  cases gk with
  | zero => exact absurd HA.out (by simp [spec_TextOk.l0])
  | succ k1 =>
   have H := HA.out
   clear HA
   simp only [spec_TextOk.l0] at H
   by_cases c2 : x3_1 < (a0.size : Int)
   rotate_left
   · rw [if_neg c2] at H
     have c2b0 : decide (x3_1 < (a0.size : Int)) = false := decide_eq_false c2
     clear c2
     obtain rfl := Option.some.inj H
     go_wp2
     go_ret
     exact ⟨by first | rfl | (simp; done) | (simp [*]; done), by repeat (first | exact Drawn0.refl _ | apply Drawn0.step)⟩
   rw [if_pos c2] at H
   have c2b0 : decide (x3_1 < (a0.size : Int)) = true := decide_eq_true c2
   clear c2
   by_cases c3 : 0 ≤ x3_1
   rotate_left
   · rw [if_neg c3] at H
     exact absurd H (by simp)
   rw [if_pos c3] at H
   have c3b0 : decide (0 ≤ x3_1) = true := decide_eq_true c3
   clear c3
   replace H := obs H
   obtain ⟨t139, A50, H⟩ := H
   replace H : (if t139 = true then (spec_TextOk.l0 k1 a0 (wrap64 (x3_1 + 1))) else (some false)) = some r := H
   have A5 := am A50
   clear A50
   by_cases c6 : t139 = true
   · subst c6
     have H1 : (spec_TextOk.l0 k1 a0 (wrap64 (x3_1 + 1))) = some r := by rw [if_pos rfl] at H; exact H
     clear H
     have H := H1
     clear H1
     have H' := am H
     clear H
     have p4 : 0 ≤ (x3_1 : Int) := of_decide_eq_true zl
     have q4 : x3_1 < (a0.size : Int) := of_decide_eq_true zl
     have hx4 := bt_at a0 x3_1
     replace p4 := eq_true p4
     replace q4 := eq_true q4
     go_wp2_with (first | ((with_reducible refine gate_callee (f := 55) rfl ?_); refine gl Try.func55 14 #[.int .i64 (wrap64 (bt a0 x3_1)), .int .i64 97, .int .i64 100] rfl rfl rfl ?_; (with_reducible refine (spec_l6In.calls (wrap64 (bt a0 x3_1)) 97 100 true _ A5.out).mono ?_); rintro e w' ⟨rfl, ⟨nd, rfl⟩⟩; refine ⟨_, rfl, ?_⟩))
     go_roundg k1
     case measure => have := HK1.out; omega
     case rel => exact ⟨(wrap64 (x3_1 + 1)), ze, H', ⟨by have := HK1.out; omega⟩, by repeat (first | exact Drawn0.refl _ | apply Drawn0.step)⟩
   replace c6 := Bool.eq_false_iff.mpr c6
   subst c6
   have H1 : (some false) = some r := by rw [if_neg (show ¬ (false = true) by decide)] at H; exact H
   clear H
   have H := H1
   clear H1
   obtain rfl := Option.some.inj H
   have p4 : 0 ≤ (x3_1 : Int) := of_decide_eq_true zl
   have q4 : x3_1 < (a0.size : Int) := of_decide_eq_true zl
   have hx4 := bt_at a0 x3_1
   replace p4 := eq_true p4
   replace q4 := eq_true q4
   go_wp2_with (first | ((with_reducible refine gate_callee (f := 55) rfl ?_); refine gl Try.func55 14 #[.int .i64 (wrap64 (bt a0 x3_1)), .int .i64 97, .int .i64 100] rfl rfl rfl ?_; (with_reducible refine (spec_l6In.calls (wrap64 (bt a0 x3_1)) 97 100 false _ A5.out).mono ?_); rintro e w' ⟨rfl, ⟨nd, rfl⟩⟩; refine ⟨_, rfl, ?_⟩))
   go_ret
   exact ⟨by first | rfl | (simp; done) | (simp [*]; done), by repeat (first | exact Drawn0.refl _ | apply Drawn0.step)⟩
/-! ### spec_l3Copy: function 92 -/
def spec_l3Copy.f (a0_0 : ByteArray) (l0_1 : List Int) : Option (ByteArray × List Int) := (some (([] : List Int) : List Int)).bind fun y142 => (if y142.length + l0_1.length < 17592186044416 then (some (a0_0, (y142 ++ l0_1))) else (none))
def spec_l3Copy.T1 : Bool × List (List Nat × List Nat) := (true, [([], []), ([0], [0]), ([], []), ([], []), ([3], [3]), ([2, 4], [2, 4]), ([1, 5], [1, 5]), ([6, 5, 0, 1, 2, 3, 4, 5, 6], [6])])
def spec_l3Copy.B1 : List Nat := [0, 1, 0, 0, 8, 28, 63, 127]
theorem spec_l3Copy.tab1 : rtab .any (opsOf Try.f92 1) = spec_l3Copy.T1 := by kernel_rfl
theorem spec_l3Copy.bits1 : waitsOk spec_l3Copy.T1.2 spec_l3Copy.B1 = true := by kernel_rfl
set_option maxHeartbeats 8000000 in
set_option maxRecDepth 100000 in
theorem spec_l3Copy.calls (a0_0 : ByteArray) (A0_1 : Option Addr) (c0_1 : Nat) (l0_1 : List Int) (r1 : ByteArray) (r2 : List Int) (w : World) (hr0_1 : Kd.C (Kd.int .i64) w A0_1 l0_1.length l0_1) (hc0_1 : l0_1.length ≤ c0_1) (h : spec_l3Copy.f a0_0 l0_1 = some (r1, r2)) :
 Calls Try.prog 92 #[.agg #[.string a0_0, .slice A0_1 l0_1.length c0_1]] w fun e w' => ∃ v1_ : Value, e = .returned (.agg #[.string r1, v1_]) ∧ Kd.R (Kd.int .i64) 3 w' w.heap.size (fun _ => True) v1_ r2 ∧ Below w.heap.size w w' := by
 have hu38 := Try.underlying38
 have HR0_1 := am hr0_1
 have HC0_1 := am hc0_1
 clear hr0_1 hc0_1
 have HB := am (Below.refl w.heap.size w)
 have H : ((some (([] : List Int) : List Int)).bind fun y142 => (if y142.length + l0_1.length < 17592186044416 then (some (a0_0, (y142 ++ l0_1))) else (none))) = some (r1, r2) := h
 clear h
 obtain ⟨y142, hy142⟩ : ∃ y_ : List Int, y_ = (([] : List Int)) := ⟨_, rfl⟩
 replace H : (if y142.length + l0_1.length < 17592186044416 then (some (a0_0, (y142 ++ l0_1))) else (none)) = some (r1, r2) := hY hy142 H
 have Ny142 := am hy142
 clear hy142
 by_cases c2 : y142.length + l0_1.length < 17592186044416
 rotate_left
 · rw [if_neg c2] at H
   exact absurd H (by simp)
 rw [if_pos c2] at H
 have LMc2 := am c2
 clear c2
 obtain ⟨y145, hy145⟩ : ∃ y_ : List Int, y_ = (y142 ++ l0_1) := ⟨_, rfl⟩
 replace H : (some (a0_0, y145)) = some (r1, r2) := hY hy145 H
 have Ny145 := am hy145
 clear hy145
 simp only [Option.some.injEq, Prod.mk.injEq] at H
 obtain ⟨rfl, rfl⟩ := H
 go_enter Try.func92, Try.ntmps92
 try go_wp2_with (first | ((with_reducible refine gate_dst (N := 1) rfl ?_); refine bx 38 #[.string a0_0, .slice A0_1 l0_1.length c0_1] ?_; intro gb140 hg w3 hbox hb; have BK140 := am (hbox); have GW140 := am (zn hg (zb HB)); have GE140 := am (zn hg (zb HB)); replace HB := am (below_step (zb HB) hb); clear hb hbox hg) | ((with_reducible refine gate_dst (N := 2) rfl ?_); refine bx 38 #[.string (⟨#[]⟩ : ByteArray), .slice none 0 0] ?_; intro gb141 hg w4 hbox hb; have BK141 := am (hbox); have GW141 := am (zn hg (zb HB)); have GE141 := am (zn hg (zb HB)); replace HB := am (below_step (zb HB) hb); have NB140_141 := am (zx hg (zk BK140)); have NB141_140 := am (zy hg (zk BK140)); replace BK140 := am (blk_below (zk BK140) hb); clear hb hbox hg))
 replace BK140 := am (blk_drew BK140.out)
 replace BK141 := am (blk_drew BK141.out)
 replace HB := am (below_drew1 HB.out)
 refine start_ (n := 8) (S := fun w' => w'.cell? ⟨gb140, 0, none⟩ = some (.string a0_0) ∧ w'.cell? ⟨gb140, 1, none⟩ = some (.slice A0_1 l0_1.length c0_1)) (ds := []) (bs 8 0) (by kernel_rfl) rfl rfl ⟨ce0 BK140, ce1 BK140⟩ (fun hHeld => ?_); refine with_tabW spec_l3Copy.tab1 spec_l3Copy.bits1 (fun HT_ HW_ => ?_)
 generalize w4.drew = w5 at BK140 BK141 HB hHeld ⊢
 refine pu 0 3 8 1 rfl rfl ?_
 refine pu 3 6 8 9 rfl rfl ?_
 refine ta2 1 4 8 11 rfl rfl hHeld ?_
 refine ta2 4 7 8 27 rfl rfl hHeld ?_
 refine oz 2 8 31 rfl rfl (fun K hK => ?_)
 refine Kd.R_lit_step (Kd.int .i64) _ 3 ?hg (N := 5) ?hd (xs := ([] : List Int)) (inner := []) (ok := fun _ => True) (okp := fun _ => True) ?hr ?hp (fun _ hk => hk) trivial (Below.refl _ _) (Nat.le_refl _) (by simp) ?_; (case hd => rfl); (case hg => rfl); (case hr => first | (go_simp; done) | (go_simp; rfl)); (case hp => exact (Reps.none _ _))
 intro v143 w6 ho7 hb hg_ hnew_
 clear hg_ hnew_
 (first | rw [← Ny142.out] at ho7 | (simp only [Int.reduceToNat] at ho7; rw [← Ny142.out] at ho7))
 have HO144 := am (Kd.R_lower ho7 (below_size (zb HB)))
 replace BK140 := am (blk_below (zk BK140) hb)
 replace BK141 := am (blk_below (zk BK141) hb)
 replace HB := am (below_step (zb HB) hb)
 clear hb ho7
 refine hK.out _ _ ⟨ce0 BK140, ce1 BK140⟩ (fun hHeld => ?_)
 clear hK K
 refine norm_ (a' := ?_) ?_ ?_
 rotate_left
 · show Act.put _ (some 5) _ = _
   simp only [Act.put, List.setIfInBounds_toArray, List.set_cons_zero, List.set_cons_succ, i64_w, i32_w]
   rfl
 refine oz 5 8 63 rfl rfl (fun K hK => ?_)
 refine Kd.R_append_rows_step (Kd.int .i64) (w0 := w) w.heap.size (by rfl) (.tmp 5) (.tmp 7) 36 3 (.int .i64 0) 8 rfl Try.underlying36 info3 rfl (by decide) (by omega) v143 y142 l0_1 _ _ _ (fun _ => True) (fun _ => False) rfl rfl ?aO ?aR (fun _ _ h => h) (fun _ h => h.elim) ?aF ?aB ?aS ?aL ?_
 (case aR => repeat (first | exact (Kd.C_below HR0_1.out HB.out) | (with_reducible refine Kd.C_alloc ?_ _) | (with_reducible refine Kd.C_drewN ?_ _) | (with_reducible refine Kd.C_drew ?_)))
 (case aB => exact (zb HB))
 (case aF => exact (fun _ _ => trivial))
 (case aO => exact (zr HO144))
 (case aS => exact (below_size (zb HB)))
 (case aL => have := LMc2.out; omega)
 intro v146 w8 ho hb hg hat
 rw [← Ny145.out] at ho
 replace BK140 := am (blk_grown (zk BK140) hg (Kd.R_ne HO144.out BK140.out (by decide)))
 replace BK141 := am (blk_grown (zk BK141) hg (Kd.R_ne HO144.out BK141.out (by decide)))
 replace HB := am (hb)
 have HO147 := am (ho)
 clear HO144 ho hb hg hat
 obtain ⟨Ao9, co9, eo9⟩ := Kd.R_slice HO147.out
 (first | subst eo9 | (injection eo9 with f1_ f2_ f3_; have f4_ := f1_.symm; have f5_ := f3_.symm; clear f1_ f2_ f3_; subst f4_; subst f5_))
 refine hK.out _ _ ⟨ce0 BK140, ce1 BK140⟩ (fun hHeld => ?_)
 clear hK K
 refine norm_ (a' := ?_) ?_ ?_
 rotate_left
 · show Act.put _ (some 8) _ = _
   simp only [Act.put, List.setIfInBounds_toArray, List.set_cons_zero, List.set_cons_succ, i64_w, i32_w]
   rfl
 refine pu 6 9 8 127 rfl rfl ?_
 refine oz 7 8 255 rfl rfl (fun K hK => ?_)
 have hs10 := ce0 BK141
 have hfs10 := bfz BK141 0
 have hns10_0 := NB140_141.out
 have hms10_0 := NB141_140.out
 have hs11 := ce1 BK141
 have hfs11 := bfz BK141 1
 have hns11_0 := NB140_141.out
 have hms11_0 := NB141_140.out
 refine skip_ (w1 := ?_) (by rfl) rfl ?_ ?_
 rotate_left
 · go_simp
   rfl
 refine hK.out _ _ ⟨((cell_far (p := ⟨gb141, _, none⟩) NB140_141.out _).trans (((cell_far (p := ⟨gb141, _, none⟩) NB140_141.out _).trans (hHeld.1)))), ((cell_far (p := ⟨gb141, _, none⟩) NB140_141.out _).trans (((cell_far (p := ⟨gb141, _, none⟩) NB140_141.out _).trans (hHeld.2))))⟩ (fun hHeld => ?_)
 clear hK K
 refine done_ (done_of HT_.out (by kernel_rfl)) ?_
 try go_wp2
 refine bodyPost_ret (results_cell_row rfl _ _ gb141 38 #[.string a0_0, .slice Ao9 y145.length co9] (0, 0) _ rfl (zp BK141) Try.underlying38 rfl (by kernel_rfl)) rfl ?_
 exact ⟨_, zw, by (with_reducible repeat (first | apply Kd.R_alloc | apply Kd.R_drewN | apply Kd.R_drew)); exact Kd.R_mono (Kd.R_far (p := ⟨gb141, 1, none⟩) (Kd.R_far (p := ⟨gb141, 0, none⟩) (Kd.R_types HO147.out BK141.out (by decide)) (fun _ hk => hk.2) (.string a0_0)) (fun _ hk => hk.2) (.slice Ao9 y145.length co9)) (fun _ hk => trivial), (zb HB)⟩
/-! ### spec_l2Copy: function 93 -/
def spec_l2Copy.f (l0 : List (S55)) : Option ((List (S55))) := (some (([] : List (S55)) : List (S55))).bind fun y148 => (if y148.length + l0.length < 5864062014805 then (some (y148 ++ l0)) else (none))
set_option maxHeartbeats 8000000 in
set_option maxRecDepth 100000 in
theorem spec_l2Copy.calls (A0 : Option Addr) (c0 : Nat) (l0 : List (S55)) (r : List (S55)) (w : World) (hr0 : Kd.C k55 w A0 l0.length l0) (hc0 : l0.length ≤ c0) (h : spec_l2Copy.f l0 = some r) :
 Calls Try.prog 93 #[.slice A0 l0.length c0] w fun e w' => ∃ v0_ : Value, e = .returned (v0_) ∧ Kd.R k55 55 w' w.heap.size (fun _ => True) v0_ r ∧ Below w.heap.size w w' := by
 have HR0 := am hr0
 have HC0 := am hc0
 clear hr0 hc0
 have HB := am (Below.refl w.heap.size w)
 have H : ((some (([] : List (S55)) : List (S55))).bind fun y148 => (if y148.length + l0.length < 5864062014805 then (some (y148 ++ l0)) else (none))) = some r := h
 clear h
 obtain ⟨y148, hy148⟩ : ∃ y_ : List (S55), y_ = (([] : List (S55))) := ⟨_, rfl⟩
 replace H : (if y148.length + l0.length < 5864062014805 then (some (y148 ++ l0)) else (none)) = some r := hY hy148 H
 have Ny148 := am hy148
 clear hy148
 by_cases c2 : y148.length + l0.length < 5864062014805
 rotate_left
 · rw [if_neg c2] at H
   exact absurd H (by simp)
 rw [if_pos c2] at H
 have LMc2 := am c2
 clear c2
 obtain ⟨y151, hy151⟩ : ∃ y_ : List (S55), y_ = (y148 ++ l0) := ⟨_, rfl⟩
 replace H : (some y151) = some r := hY hy151 H
 have Ny151 := am hy151
 clear hy151
 obtain rfl := Option.some.inj H
 go_enter Try.func93, Try.ntmps93
 go_wp2_with (first | ((with_reducible refine gate_dst (N := 3) rfl ?_); refine Kd.R_lit k55 _ 55 ?hg (N := 3) ?hd (xs := ([] : List (S55))) (inner := []) (ok := fun _ => True) (okp := fun _ => True) ?hr ?hp (fun _ hk => hk) trivial (Below.refl _ _) (Nat.le_refl _) (by simp) ?_; (case hd => rfl); (case hg => rfl); (case hr => first | (go_simp; done) | (go_simp; rfl)); (case hp => exact (Reps.none _ _)); intro v149 w3 ho4 hb hg_ hnew_; clear hg_ hnew_; (first | rw [← Ny148.out] at ho4 | (simp only [Int.reduceToNat] at ho4; rw [← Ny148.out] at ho4)); have HO150 := am (Kd.R_lower ho4 (below_size (zb HB))); replace HB := am (below_step (zb HB) hb); clear hb ho4) | ((with_reducible refine gate_builtin (b := .append) (xs := #[.tmp 3, .tmp 4]) rfl ?_); at_builtin; refine Kd.R_append_rows k55 (w0 := w) w.heap.size rfl (.tmp 3) (.tmp 4) 28 55 (.agg #[(.string ⟨#[]⟩), (.int .i64 0)]) 24 rfl Try.underlying28 info55 rfl (by decide) (by omega) v149 y148 l0 _ _ _ (fun _ => True) (fun _ => False) rfl rfl ?aO ?aR (fun _ _ h => h) (fun _ h => h.elim) ?aF ?aB ?aS ?aL ?_; (case aR => repeat (first | exact (Kd.C_below HR0.out HB.out) | (with_reducible refine Kd.C_alloc ?_ _) | (with_reducible refine Kd.C_drewN ?_ _) | (with_reducible refine Kd.C_drew ?_))); (case aB => exact (zb HB)); (case aF => exact (fun _ _ => trivial)); (case aO => exact (zr HO150)); (case aS => exact (below_size (zb HB))); (case aL => have := LMc2.out; omega); intro v152 w5 ho hb hg hat; rw [← Ny151.out] at ho; replace HB := am (hb); have HO153 := am (ho); clear HO150; clear ho hb hg hat))
 go_ret
 exact ⟨_, zw, (zr HO153), (zb HB)⟩
/-! ### spec_l11Copy: function 82 -/
def spec_l11Copy.l0 : Nat → List (S38) → Int → List (S55) → List (S38) → Option ((List (S55)) × (List (S38)))
 | 0, _, _, _, _ => none
 | k + 1, x3, x4, x155000, x155001 => if x4 < (x155001.length : Int) then (if 0 ≤ x4 then ((spec_l3Copy.f ((rd_T38 x155001 x4).f0) ((rd_T38 x155001 x4).f1)).bind fun bt160 => (if x3.length < 3518437208883 then (spec_l11Copy.l0 k (x3 ++ [(⟨bt160.1, bt160.2⟩ : S38)]) (wrap64 (x4 + 1)) x155000 x155001) else (none))) else (none)) else ((spec_l2Copy.f x155000).bind fun t167 => (some (t167, x3)))
def spec_l11Copy.f (k : Nat) (l0_0 : List (S55)) (l0_1 : List (S38)) : Option ((List (S55)) × (List (S38))) := spec_l11Copy.l0 k (([] : List (S38))) 0 l0_0 l0_1
theorem spec_l11Copy.mono_l : ∀ k, (∀ y0 y1 y2 y3, LeO (spec_l11Copy.l0 k y0 y1 y2 y3) (spec_l11Copy.l0 (k + 1) y0 y1 y2 y3))
 | 0 => fun _ _ _ _ r h => by simp [spec_l11Copy.l0] at h
 | k + 1 => by
  have ih0 := spec_l11Copy.mono_l k
  intro y0 y1 y2 y3
  unfold spec_l11Copy.l0
  exact mo1 ih0
theorem spec_l11Copy.mono : ∀ a0 a1 k, LeO (spec_l11Copy.f k a0 a1) (spec_l11Copy.f (k + 1) a0 a1) := by
 intro a0 a1 k
 have ih0 := spec_l11Copy.mono_l k
 unfold spec_l11Copy.f
 exact mo1 ih0
set_option maxHeartbeats 8000000 in
set_option maxRecDepth 100000 in
theorem spec_l11Copy.calls (k : Nat) (A0_0 : Option Addr) (c0_0 : Nat) (l0_0 : List (S55)) (A0_1 : Option Addr) (c0_1 : Nat) (l0_1 : List (S38)) (r1 : List (S55)) (r2 : List (S38)) (w : World) (hr0_0 : Kd.C k55 w A0_0 l0_0.length l0_0) (hc0_0 : l0_0.length ≤ c0_0) (hr0_1 : Kd.C k38 w A0_1 l0_1.length l0_1) (hc0_1 : l0_1.length ≤ c0_1) (h : spec_l11Copy.f k l0_0 l0_1 = some (r1, r2)) :
 Calls Try.prog 82 #[.agg #[.slice A0_0 l0_0.length c0_0, .slice A0_1 l0_1.length c0_1]] w fun e w' => ∃ v0_ v1_ : Value, e = .returned (.agg #[v0_, v1_]) ∧ Kd.R k55 55 w' w.heap.size (fun _ => True) v0_ r1 ∧ Kd.S k38 38 w' w.heap.size (fun _ => True) v1_ r2 ∧ Below w.heap.size w w' := by
 have hu31 := Try.underlying31
 have hu38 := Try.underlying38
 have HR0_0 := am hr0_0
 have HC0_0 := am hc0_0
 clear hr0_0 hc0_0
 have HR0_1 := am hr0_1
 have HC0_1 := am hc0_1
 clear hr0_1 hc0_1
 have HB := am (Below.refl w.heap.size w)
 have H : (spec_l11Copy.l0 k (([] : List (S38))) 0 l0_0 l0_1) = some (r1, r2) := h
 clear h
 obtain ⟨y156, hy156⟩ : ∃ y_ : List (S38), y_ = (([] : List (S38))) := ⟨_, rfl⟩
 replace H : (spec_l11Copy.l0 k y156 0 l0_0 l0_1) = some (r1, r2) := hY hy156 H
 have Ny156 := am hy156
 clear hy156
 have H' := am H
 clear H
 go_enter Try.func82, Try.ntmps82
 go_wp2_with (first | ((with_reducible refine gate_dst (N := 1) rfl ?_); refine bx 31 #[.slice A0_0 l0_0.length c0_0, .slice A0_1 l0_1.length c0_1] ?_; intro gb154 hg w2 hbox hb; have BK154 := am (hbox); have GW154 := am (zn hg (zb HB)); have GE154 := am (zn hg (zb HB)); replace HB := am (below_step (zb HB) hb); clear hb hbox hg) | ((with_reducible refine gate_dst (N := 2) rfl ?_); refine bx 31 #[.slice none 0 0, .slice none 0 0] ?_; intro gb155 hg w3 hbox hb; have BK155 := am (hbox); have GW155 := am (zn hg (zb HB)); have GE155 := am (zn hg (zb HB)); replace HB := am (below_step (zb HB) hb); have NB154_155 := am (zx hg (zk BK154)); have NB155_154 := am (zy hg (zk BK154)); replace BK154 := am (blk_below (zk BK154) hb); clear hb hbox hg) | ((with_reducible refine gate_dst (N := 5) rfl ?_); refine Kd.S_lit k38 _ 38 ?hg (N := 5) ?hd (xs := ([] : List (S38))) (inner := []) (ok := fun _ => True) (okp := fun _ => True) ?hr ?hp (fun _ hk => hk) trivial (Below.refl _ _) (Nat.le_refl _) (by simp) ?_; (case hd => rfl); (case hg => rfl); (case hr => first | (go_simp; done) | (go_simp; rfl)); (case hp => exact (Reps.none _ _)); intro v157 w4 ho5 hb hg_ hnew_; clear hg_ hnew_; (first | rw [← Ny156.out] at ho5 | (simp only [Int.reduceToNat] at ho5; rw [← Ny156.out] at ho5)); have HO158 := am (Kd.S_lower ho5 (below_size (zb HB))); replace BK154 := am (blk_below (zk BK154) hb); replace BK155 := am (blk_below (zk BK155) hb); replace HB := am (below_step (zb HB) hb); clear hb ho5))
 go_loopg [3, 4] k (fun kq v3 v4 w' => ∃ (x3_1 : List (S38)) (x4_1 : Int), v4 = .int .i64 x4_1 ∧ Aside0 (spec_l11Copy.l0 kq x3_1 x4_1 l0_0 l0_1 = some (r1, r2)) ∧ Aside0 (kq ≤ k) ∧ Aside0 (Kd.S k38 38 w' w.heap.size (fun _ => True) v3 x3_1) ∧ Aside0 (w'.heap[gb154]? = some (.cells #[(.slice A0_0 l0_0.length c0_0), (.slice A0_1 l0_1.length c0_1)] 31 (0, 0))) ∧ Aside0 (w'.heap[gb155]? = some (.cells #[(.slice none 0 0), (.slice none 0 0)] 31 (0, 0))) ∧ Aside0 (Below w.heap.size w w'))
 case atStart => exact ⟨(y156), (0), ze, H', ⟨Nat.le_refl _⟩, ⟨zs HO158⟩, ⟨zk BK154⟩, ⟨zk BK155⟩, ⟨zb HB⟩⟩
 case round =>
  clear H'
  try clear p2
  obtain ⟨x3_1, x4_1, rfl, HA, HK1, HO_3, BK154, BK155, HB⟩ := hrel
  cases gk with
  | zero => exact absurd HA.out (by simp [spec_l11Copy.l0])
  | succ k1 =>
   have H := HA.out
   clear HA
   simp only [spec_l11Copy.l0] at H
   by_cases c6 : x4_1 < (l0_1.length : Int)
   rotate_left
   · rw [if_neg c6] at H
     have c6b0 : decide (x4_1 < (l0_1.length : Int)) = false := decide_eq_false c6
     clear c6
     replace H := obs H
     obtain ⟨t167, A150, H⟩ := H
     replace H : (some (t167, x3_1)) = some (r1, r2) := H
     have A15 := am A150
     clear A150
     simp only [Option.some.injEq, Prod.mk.injEq] at H
     obtain ⟨rfl, rfl⟩ := H
     have hnb16 := NB154_155.out
     have hnc16 := NB155_154.out
     have hcz17_0 := ce0 BK154
     have hcz17_1 := ce1 BK154
     have hfz17_0 := bfz BK154 0
     have hfz17_1 := bfz BK154 1
     go_wp2_with (first | ((with_reducible refine gate_callee (f := 93) rfl ?_); refine gl Try.func93 24 #[.slice A0_0 l0_0.length c0_0] rfl rfl rfl ?_; (with_reducible refine (spec_l2Copy.calls _ _ l0_0 t167 _ ?side1 ?side2 A15.out).mono ?_); (case side1 => exact zc (Kd.C_below HR0_0.out HB.out)); (case side2 => exact HC0_0.out); rintro e w18 ⟨v168, rfl, ho0, hb⟩; refine ⟨_, rfl, ?_⟩; replace HO_3 := am (Kd.S_below (zs HO_3) hb); have HO169 := am (Kd.R_lower ho0 (below_size (zb HB))); replace BK154 := am (blk_below (zk BK154) hb); replace BK155 := am (blk_below (zk BK155) hb); replace HB := am (below_step (zb HB) hb); (try clear hb); (try clear hb2); (try clear hk); (try clear hi); (try clear ho0); obtain ⟨Ao19, co19, eo19⟩ := Kd.S_slice HO_3.out; subst eo19; obtain ⟨Ao20, co20, eo20⟩ := Kd.R_slice HO169.out; subst eo20; have hcz21_0 := ce0 BK155; have hcz21_1 := ce1 BK155; have hfz21_0 := bfz BK155 0; have hfz21_1 := bfz BK155 1))
     refine bodyPost_ret (results_cell_row rfl _ _ gb155 31 #[.slice Ao20 t167.length co20, .slice Ao19 x3_1.length co19] (0, 0) _ rfl (zp BK155) Try.underlying31 rfl (by kernel_rfl)) rfl ?_
     exact ⟨_, _, zw, by (with_reducible repeat (first | apply Kd.R_alloc | apply Kd.R_drewN | apply Kd.R_drew)); exact Kd.R_mono (Kd.R_far (p := ⟨gb155, 1, none⟩) (Kd.R_far (p := ⟨gb155, 0, none⟩) (Kd.R_types HO169.out BK155.out (by decide)) (fun _ hk => hk.2) (.slice Ao20 t167.length co20)) (fun _ hk => hk.2) (.slice Ao19 x3_1.length co19)) (fun _ hk => trivial), by (with_reducible repeat (first | apply Kd.S_alloc | apply Kd.S_drewN | apply Kd.S_drew)); exact Kd.S_mono (Kd.S_far (p := ⟨gb155, 1, none⟩) (Kd.S_far (p := ⟨gb155, 0, none⟩) (Kd.S_types HO_3.out BK155.out (by decide)) (fun _ hk => hk.2) (.slice Ao20 t167.length co20)) (fun _ hk => hk.2) (.slice Ao19 x3_1.length co19)) (fun _ hk => trivial), (zb HB)⟩
   rw [if_pos c6] at H
   have c6b0 : decide (x4_1 < (l0_1.length : Int)) = true := decide_eq_true c6
   clear c6
   by_cases c7 : 0 ≤ x4_1
   rotate_left
   · rw [if_neg c7] at H
     exact absurd H (by simp)
   rw [if_pos c7] at H
   have c7b0 : decide (0 ≤ x4_1) = true := decide_eq_true c7
   clear c7
   replace H := obs H
   obtain ⟨⟨t160, t161⟩, A80, H⟩ := H
   replace H : (if x3_1.length < 3518437208883 then (spec_l11Copy.l0 k1 (x3_1 ++ [(⟨t160, t161⟩ : S38)]) (wrap64 (x4_1 + 1)) l0_0 l0_1) else (none)) = some (r1, r2) := H
   have A8 := am A80
   clear A80
   by_cases c9 : x3_1.length < 3518437208883
   rotate_left
   · rw [if_neg c9] at H
     exact absurd H (by simp)
   rw [if_pos c9] at H
   have LMc9 := am c9
   clear c9
   obtain ⟨y164, hy164⟩ : ∃ y_ : List (S38), y_ = (x3_1 ++ [(⟨t160, t161⟩ : S38)]) := ⟨_, rfl⟩
   replace H : (spec_l11Copy.l0 k1 y164 (wrap64 (x4_1 + 1)) l0_0 l0_1) = some (r1, r2) := hY hy164 H
   have Ny164 := am hy164
   clear hy164
   have H' := am H
   clear H
   have hnb10 := NB154_155.out
   have hnc10 := NB155_154.out
   have hcz11_0 := ce0 BK154
   have hcz11_1 := ce1 BK154
   have hfz11_0 := bfz BK154 0
   have hfz11_1 := bfz BK154 1
   have p159 : 0 ≤ (x4_1 : Int) := of_decide_eq_true zl
   have q159 : x4_1 < (l0_1.length : Int) := of_decide_eq_true zl
   obtain ⟨ad159, A159_1, c159_1, e159, hx159_0, hx159_1, hl159_1, hi159_1⟩ := at_T38 HR0_1.out x4_1 p159 q159
   cases e159
   replace hx159_0 := hcx HB hx159_0
   replace hx159_1 := hcx HB hx159_1
   have HR159_1 := am hi159_1
   have HC159_1 := am hl159_1
   clear hi159_1 hl159_1
   replace p159 := eq_true p159
   replace q159 := eq_true q159
   go_wp2_with (first | ((with_reducible refine gate_callee (f := 92) rfl ?_); refine gl Try.func92 19 #[.agg #[.string ((rd_T38 l0_1 x4_1).f0), .slice A159_1 ((rd_T38 l0_1 x4_1).f1).length c159_1]] rfl rfl rfl ?_; (with_reducible refine (spec_l3Copy.calls ((rd_T38 l0_1 x4_1).f0) _ _ ((rd_T38 l0_1 x4_1).f1) t160 t161 _ ?side1 ?side2 A8.out).mono ?_); (case side1 => exact zc (Kd.C_below HR159_1.out HB.out)); (case side2 => exact HC159_1.out); rintro e w12 ⟨v162, rfl, ho0, hb⟩; refine ⟨_, rfl, ?_⟩; replace HO_3 := am (Kd.S_elder' (zs HO_3) (Kd.R_base ho0) hb); have HO163 := am (Kd.R_lower ho0 (below_size (zb HB))); replace BK154 := am (blk_below (zk BK154) hb); replace BK155 := am (blk_below (zk BK155) hb); replace HB := am (below_step (zb HB) hb); (try clear hb); (try clear hb2); (try clear hk); (try clear hi); (try clear ho0); obtain ⟨Ao14, co14, eo14⟩ := Kd.R_slice HO163.out; subst eo14) | ((with_reducible refine gate_builtin (b := .append) (xs := #[.tmp 13, .tmp 20]) rfl ?_); at_builtin; refine Kd.S_append k38 (w0 := w) w.heap.size rfl (.tmp 13) (.tmp 20) 29 38 (.agg #[(.string ⟨#[]⟩), (.slice none 0 0)]) 40 rfl Try.underlying29 info38 rfl (by decide) (by omega) u3 x3_1 (⟨t160, t161⟩ : S38) [.string t160, .slice Ao14 t161.length co14] (fun _ => True) (fun k_ => some k_ = (.slice Ao14 t161.length co14 : Value).ownBlock) rfl rfl ?aP (fun k_ hk_ => ((Kd.R_mono (ok' := fun k_ => ((fun _ => True)) k_ ∧ some k_ ≠ (u3 : Value).ownBlock) (Kd.R_apart' (HO163.out) (Kd.S_typed HO_3.out) (by decide)) (fun k_ hk => ⟨trivial, hk.2⟩))).1 k_ hk_.symm) ?aF ?aO ?aB ?aS ?aL ?_; (case aP => exact k38_mkM _ _ _ (⟨t160, t161⟩ : S38) (Kd.R_mono (Kd.R_tight rfl (Kd.R_mono (ok' := fun k_ => ((fun _ => True)) k_ ∧ some k_ ≠ (u3 : Value).ownBlock) (Kd.R_apart' (HO163.out) (Kd.S_typed HO_3.out) (by decide)) (fun k_ hk => ⟨trivial, hk.2⟩))) (fun _ h_ => h_))); (case aB => exact (zb HB)); (case aF => exact (fun _ _ => trivial)); (case aO => exact (by (with_reducible repeat (first | apply Kd.S_alloc | apply Kd.S_drewN | apply Kd.S_drew)); exact Kd.S_mono HO_3.out (fun k_ hk => ⟨trivial, fun e_ => hk.2 e_⟩))); (case aS => exact (below_size (zb HB))); (case aL => have := LMc9.out; omega); intro v165 w13 ho hb hg hat; rw [← Ny164.out] at ho; replace BK154 := am (blk_grown (zk BK154) hg (Kd.S_ne HO_3.out BK154.out (by decide))); replace BK155 := am (blk_grown (zk BK155) hg (Kd.S_ne HO_3.out BK155.out (by decide))); replace HB := am (hb); have HO166 := am (ho); clear HO_3 HO163; clear ho hb hg hat))
   go_roundg k1
   case measure => have := HK1.out; omega
   case rel => exact ⟨(y164), (wrap64 (x4_1 + 1)), ze, H', ⟨by have := HK1.out; omega⟩, ⟨zs HO166⟩, ⟨zk BK154⟩, ⟨zk BK155⟩, ⟨zb HB⟩⟩
/-! ### spec_l2Drop: function 96 -/
def spec_l2Drop.f (l0 : List (S55)) (a1 : Int) : Option ((List (S55))) := if 0 ≤ (wrap64 (a1 - 1)) then (if (wrap64 (a1 - 1)) < (l0.length : Int) then ((some (l0.set ((wrap64 (a1 - 1)) : Int).toNat (⟨(rd_T55 l0 (wrap64 (a1 - 1))).f0, wrap64 (((rd_T55 l0 (wrap64 (a1 - 1))).f1) - 1)⟩ : S55) : List (S55))).bind fun y171 => (if ((rd_T55 y171 (wrap64 (a1 - 1))).f1) = 0 then (some (y171.set ((wrap64 (a1 - 1)) : Int).toNat (⟨(⟨#[]⟩ : ByteArray), (rd_T55 y171 (wrap64 (a1 - 1))).f1⟩ : S55))) else (some y171))) else (none)) else (none)
set_option maxHeartbeats 8000000 in
set_option maxRecDepth 100000 in
theorem spec_l2Drop.calls (P0_ : Nat → Prop) (u9000_ : Value) (l0 : List (S55)) (a1 : Int) (r : List (S55)) (w0 w : World) (hB : Below w0.heap.size w0 w) (ho0 : Kd.R k55 55 w w0.heap.size P0_ u9000_ l0) (h : spec_l2Drop.f l0 a1 = some r) :
 Calls Try.prog 96 #[u9000_, .int .i64 a1] w fun e w' => ∃ v0_ : Value, e = .returned (v0_) ∧ Kd.R k55 55 w' w0.heap.size (fun k_ => (P0_ k_ ∨ w.heap.size ≤ k_)) v0_ r ∧ Below w0.heap.size w0 w' ∧ Kept w w' (fun k_ => P0_ k_) := by
 have HO0 := am (show Kd.R k55 55 w w0.heap.size (fun k_ => (P0_ k_ ∨ w.heap.size ≤ k_)) u9000_ l0 from Kd.R_mono ho0 (fun k_ hk => (.inl hk)))
 have HK := am (Kept.refl w (fun k_ => P0_ k_))
 have HW0 := am hB.size
 have HB := am hB
 clear hB
 have H : (if 0 ≤ (wrap64 (a1 - 1)) then (if (wrap64 (a1 - 1)) < (l0.length : Int) then ((some (l0.set ((wrap64 (a1 - 1)) : Int).toNat (⟨(rd_T55 l0 (wrap64 (a1 - 1))).f0, wrap64 (((rd_T55 l0 (wrap64 (a1 - 1))).f1) - 1)⟩ : S55) : List (S55))).bind fun y171 => (if ((rd_T55 y171 (wrap64 (a1 - 1))).f1) = 0 then (some (y171.set ((wrap64 (a1 - 1)) : Int).toNat (⟨(⟨#[]⟩ : ByteArray), (rd_T55 y171 (wrap64 (a1 - 1))).f1⟩ : S55))) else (some y171))) else (none)) else (none)) = some r := h
 clear h
 obtain ⟨ji3, hji3⟩ : ∃ j_ : Int, (wrap64 (a1 - 1)) = j_ := ⟨_, rfl⟩
 replace H : (if 0 ≤ (ji3) then (if (ji3) < (l0.length : Int) then ((some (l0.set ((ji3) : Int).toNat (⟨(rd_T55 l0 (ji3)).f0, wrap64 (((rd_T55 l0 (ji3)).f1) - 1)⟩ : S55) : List (S55))).bind fun y171 => (if ((rd_T55 y171 (ji3)).f1) = 0 then (some (y171.set ((ji3) : Int).toNat (⟨(⟨#[]⟩ : ByteArray), (rd_T55 y171 (ji3)).f1⟩ : S55))) else (some y171))) else (none)) else (none)) = some r := by first | (rw [hji3] at H; exact H) | (simp only [hji3] at H ⊢; exact H)
 have hji3w : (IntKind.i64.wrap (a1 - 1)) = ji3 := (i64_w _).trans hji3
 by_cases c4 : 0 ≤ (ji3)
 rotate_left
 · rw [if_neg c4] at H
   exact absurd H (by simp)
 rw [if_pos c4] at H
 have c4b0 : decide (0 ≤ (ji3)) = true := decide_eq_true c4
 clear c4
 by_cases c5 : (ji3) < (l0.length : Int)
 rotate_left
 · rw [if_neg c5] at H
   exact absurd H (by simp)
 rw [if_pos c5] at H
 have c5b0 : decide ((ji3) < (l0.length : Int)) = true := decide_eq_true c5
 clear c5
 obtain ⟨y171, hy171⟩ : ∃ y_ : List (S55), y_ = (l0.set ((ji3) : Int).toNat (⟨(rd_T55 l0 (ji3)).f0, wrap64 (((rd_T55 l0 (ji3)).f1) - 1)⟩ : S55)) := ⟨_, rfl⟩
 replace H : (if ((rd_T55 y171 (ji3)).f1) = 0 then (some (y171.set ((ji3) : Int).toNat (⟨(⟨#[]⟩ : ByteArray), (rd_T55 y171 (ji3)).f1⟩ : S55))) else (some y171)) = some r := hY hy171 H
 have Ny171 := am hy171
 clear hy171
 by_cases c7 : ((rd_T55 y171 (ji3)).f1) = 0
 rotate_left
 · rw [if_neg c7] at H
   have c7b0 : (((rd_T55 y171 (ji3)).f1) == 0) = false := beq_eq_false_iff_ne.mpr c7
   have c7b1 : (((rd_T55 y171 (ji3)).f1) != 0) = true := bne_iff_ne.mpr c7
   obtain rfl := Option.some.inj H
   obtain ⟨Ao14, co14, eo14⟩ := Kd.R_slice HO0.out
   subst eo14
   have p170 : 0 ≤ ((ji3) : Int) := of_decide_eq_true zl
   have q170 : (ji3) < (l0.length : Int) := of_decide_eq_true zl
   obtain ⟨ad170, e170, hx170_0, hx170_1⟩ := at_T55 (Kd.R_reads' HO0.out).2.2 (ji3) p170 q170
   cases e170
   replace p170 := eq_true p170
   replace q170 := eq_true q170
   have p6 : 0 ≤ ((ji3) : Int) := of_decide_eq_true zl
   have q6 : ((ji3) : Int) < ((l0.length : Int) : Int) := of_decide_eq_true zl
   obtain ⟨go6, co6, eo6, gb6, gl6, cl6, HG6⟩ := Kd.R_form HO0.out (by omega)
   (first | cases eo6 | (injection eo6 with ea_ en_ ec_; (first | subst ea_ | (injection ea_ with ea_; subst ea_)); subst ec_; clear en_))
   have GB6 := am gb6
   have GG6 := am HG6
   clear gb6 gl6 HG6
   have HMgo6 := am (show (P0_ go6 ∨ w.heap.size ≤ go6) from (HO0.out.1 _ rfl))
   (first | simp only [add_plain] at hx170_0 | skip)
   (first | simp only [add_plain] at hx170_1 | skip)
   obtain ⟨ce6, hcl6, hM6, hcc6, hfr6⟩ := Kd.R_elem HO0.out z55 ((ji3) : Int) p6 q6
   obtain rfl := k55_openM hM6
   have hx6_0 : w.cell? ⟨go6, ((ji3) : Int).toNat * 2, none⟩ = some (.string ((rd_T55 l0 (ji3)).f0)) := hcc6 0 _ rfl
   have hx6_1 : w.cell? ⟨go6, ((ji3) : Int).toNat * 2 + 1, none⟩ = some (.int .i64 ((rd_T55 l0 (ji3)).f1)) := hcc6 1 _ rfl
   have hf6_0 : w.frozen? ⟨go6, ((ji3) : Int).toNat * 2, none⟩ = false := hfr6 0
   have hf6_1 : w.frozen? ⟨go6, ((ji3) : Int).toNat * 2 + 1, none⟩ = false := hfr6 1
   clear hcl6 hcc6 hfr6 hM6
   replace p6 := eq_true p6
   replace q6 := eq_true q6
   have HX15 := am (show Kd.R k55 55 w w0.heap.size (fun k_ => (P0_ k_ ∨ w.heap.size ≤ k_)) (.slice (some ⟨go6, 0, none⟩) l0.length co14) l0 from (zr HO0))
   obtain ⟨ce15, hcl15, hM15, hcc15, hfr15⟩ := Kd.R_elem HX15.out z55 ((ji3) : Int) (of_decide_eq_true zl) (by have h_ : ((ji3) : Int) < ((l0.length : Int) : Int) := of_decide_eq_true zl; first | exact h_ | (have e_ := (Kd.R_reads' HO0.out).1; omega) | simpa using h_)
   obtain rfl := k55_openM hM15
   have HP15 := Kd.R_seg HX15.out ((ji3) : Int) (of_decide_eq_true zl) (by have h_ : ((ji3) : Int) < ((l0.length : Int) : Int) := of_decide_eq_true zl; first | exact h_ | (have e_ := (Kd.R_reads' HO0.out).1; omega) | simpa using h_) (seg := [.int .i64 (wrap64 (((rd_T55 l0 (ji3)).f1) - 1))]) (j := 1) hcl15 hcc15 (show 2 ≤ 2 from by decide) (x' := (⟨(rd_T55 l0 (ji3)).f0, wrap64 (((rd_T55 l0 (ji3)).f1) - 1)⟩ : S55)) (k55_mkM _ _ _ (⟨(rd_T55 l0 (ji3)).f0, wrap64 (((rd_T55 l0 (ji3)).f1) - 1)⟩ : S55) ) (fun _ hk => hk)
   have hx15_1 := hcc15 1 _ rfl
   (try simp only [show (k55).sz = 2 from rfl, Nat.mul_one, Nat.add_zero] at hx15_1)
   have hf15_1 := hfr15 1
   (try simp only [show (k55).sz = 2 from rfl, Nat.mul_one, Nat.add_zero] at hf15_1)
   clear hcl15 hcc15 hfr15 hM15
   go_enter Try.func96, Try.ntmps96
   go_wp2_with (first | ((with_reducible refine gate_store (t := 3) (p := 16) rfl ?_); refine store_event (t := 3) (p := 16) (v := ?vo_w16) (w1 := (w.setCell ⟨go6, ((ji3) : Int).toNat * 2 + 1, none⟩ (.int .i64 (wrap64 (((rd_T55 l0 (ji3)).f1) - 1))))) ?hg ?ho ?hn ?hr ?_; (case ho => rfl); (case hg => rfl); (case hn => rfl); (case hr => first | (go_simp; done) | (go_simp; rfl)); intro w16 hw; have hg : w.grownBy w16 (some go6) := (by rw [hw]; exact HP15.2); have hp_ : Kd.R k55 55 w16 w0.heap.size (fun k_ => (P0_ k_ ∨ w.heap.size ≤ k_)) (.slice (some ⟨go6, 0, none⟩) l0.length co14) y171 := (by rw [hw, Ny171.out]; exact HP15.1); clear HP15; replace HB := am ((by rw [hw]; exact below_set (HB.out) GB6.out : Below w0.heap.size w0 w16)); replace HK := am (Kept.of_grown (S := (fun k_ => P0_ k_)) hg (zq HK) (fun k_ e_ => (HO0.out.1 k_ e_))); replace HO0 := am (hp_); clear hg hw hp_; have p172 : 0 ≤ ((ji3) : Int) := of_decide_eq_true zl; have q172 : (ji3) < (y171.length : Int) := (by have h_ : ((ji3) : Int) < ((l0.length : Int) : Int) := of_decide_eq_true zl; first | (have e_ := (Kd.R_reads' HO0.out).1; omega) | simpa only [Ny171.out, List.length_set] using h_); have ql172 : (((ji3) : Int) < ((l0.length : Int) : Int)) = True := eq_true (of_decide_eq_true zl); obtain ⟨ad172, e172, hx172_0, hx172_1⟩ := at_T55 (Kd.R_reads' HO0.out).2.2 (ji3) p172 q172; obtain rfl : (⟨go6, 0, none⟩ : Addr) = ad172 := (by injection e172); (first | simp only [add_plain] at hx172_0 | simp only [add_at] at hx172_0 | simp only [Addr.add, Nat.zero_add] at hx172_0 | skip); (first | simp only [add_plain] at hx172_1 | simp only [add_at] at hx172_1 | simp only [Addr.add, Nat.zero_add] at hx172_1 | skip); replace p172 := eq_true p172; replace q172 := eq_true q172))
   go_ret
   exact ⟨_, by first | rfl | (simp [errW_none, errW_some] <;> rfl) | (simp only [← hji3]; first | rfl | (simp [errW_none, errW_some] <;> rfl)) | (simp [*, errW_none, errW_some] <;> rfl), (zr HO0), (zb HB), (zq HK)⟩
 rw [if_pos c7] at H
 have c7b0 : (((rd_T55 y171 (ji3)).f1) == 0) = true := beq_iff_eq.mpr c7
 have c7b1 : (((rd_T55 y171 (ji3)).f1) != 0) = false := bne_eq_false_iff_eq.mpr c7
 clear c7
 obtain ⟨y173, hy173⟩ : ∃ y_ : List (S55), y_ = (y171.set ((ji3) : Int).toNat (⟨(⟨#[]⟩ : ByteArray), (rd_T55 y171 (ji3)).f1⟩ : S55)) := ⟨_, rfl⟩
 replace H : (some y173) = some r := hY hy173 H
 have Ny173 := am hy173
 clear hy173
 obtain rfl := Option.some.inj H
 obtain ⟨Ao9, co9, eo9⟩ := Kd.R_slice HO0.out
 subst eo9
 have p170 : 0 ≤ ((ji3) : Int) := of_decide_eq_true zl
 have q170 : (ji3) < (l0.length : Int) := of_decide_eq_true zl
 obtain ⟨ad170, e170, hx170_0, hx170_1⟩ := at_T55 (Kd.R_reads' HO0.out).2.2 (ji3) p170 q170
 cases e170
 replace p170 := eq_true p170
 replace q170 := eq_true q170
 have p6 : 0 ≤ ((ji3) : Int) := of_decide_eq_true zl
 have q6 : ((ji3) : Int) < ((l0.length : Int) : Int) := of_decide_eq_true zl
 obtain ⟨go6, co6, eo6, gb6, gl6, cl6, HG6⟩ := Kd.R_form HO0.out (by omega)
 (first | cases eo6 | (injection eo6 with ea_ en_ ec_; (first | subst ea_ | (injection ea_ with ea_; subst ea_)); subst ec_; clear en_))
 have GB6 := am gb6
 have GG6 := am HG6
 clear gb6 gl6 HG6
 have HMgo6 := am (show (P0_ go6 ∨ w.heap.size ≤ go6) from (HO0.out.1 _ rfl))
 (first | simp only [add_plain] at hx170_0 | skip)
 (first | simp only [add_plain] at hx170_1 | skip)
 obtain ⟨ce6, hcl6, hM6, hcc6, hfr6⟩ := Kd.R_elem HO0.out z55 ((ji3) : Int) p6 q6
 obtain rfl := k55_openM hM6
 have hx6_0 : w.cell? ⟨go6, ((ji3) : Int).toNat * 2, none⟩ = some (.string ((rd_T55 l0 (ji3)).f0)) := hcc6 0 _ rfl
 have hx6_1 : w.cell? ⟨go6, ((ji3) : Int).toNat * 2 + 1, none⟩ = some (.int .i64 ((rd_T55 l0 (ji3)).f1)) := hcc6 1 _ rfl
 have hf6_0 : w.frozen? ⟨go6, ((ji3) : Int).toNat * 2, none⟩ = false := hfr6 0
 have hf6_1 : w.frozen? ⟨go6, ((ji3) : Int).toNat * 2 + 1, none⟩ = false := hfr6 1
 clear hcl6 hcc6 hfr6 hM6
 replace p6 := eq_true p6
 replace q6 := eq_true q6
 have HX10 := am (show Kd.R k55 55 w w0.heap.size (fun k_ => (P0_ k_ ∨ w.heap.size ≤ k_)) (.slice (some ⟨go6, 0, none⟩) l0.length co9) l0 from (zr HO0))
 obtain ⟨ce10, hcl10, hM10, hcc10, hfr10⟩ := Kd.R_elem HX10.out z55 ((ji3) : Int) (of_decide_eq_true zl) (by have h_ : ((ji3) : Int) < ((l0.length : Int) : Int) := of_decide_eq_true zl; first | exact h_ | (have e_ := (Kd.R_reads' HO0.out).1; omega) | simpa using h_)
 obtain rfl := k55_openM hM10
 have HP10 := Kd.R_seg HX10.out ((ji3) : Int) (of_decide_eq_true zl) (by have h_ : ((ji3) : Int) < ((l0.length : Int) : Int) := of_decide_eq_true zl; first | exact h_ | (have e_ := (Kd.R_reads' HO0.out).1; omega) | simpa using h_) (seg := [.int .i64 (wrap64 (((rd_T55 l0 (ji3)).f1) - 1))]) (j := 1) hcl10 hcc10 (show 2 ≤ 2 from by decide) (x' := (⟨(rd_T55 l0 (ji3)).f0, wrap64 (((rd_T55 l0 (ji3)).f1) - 1)⟩ : S55)) (k55_mkM _ _ _ (⟨(rd_T55 l0 (ji3)).f0, wrap64 (((rd_T55 l0 (ji3)).f1) - 1)⟩ : S55) ) (fun _ hk => hk)
 have hx10_1 := hcc10 1 _ rfl
 (try simp only [show (k55).sz = 2 from rfl, Nat.mul_one, Nat.add_zero] at hx10_1)
 have hf10_1 := hfr10 1
 (try simp only [show (k55).sz = 2 from rfl, Nat.mul_one, Nat.add_zero] at hf10_1)
 clear hcl10 hcc10 hfr10 hM10
 go_enter Try.func96, Try.ntmps96
 go_wp2_with (first | ((with_reducible refine gate_store (t := 3) (p := 16) rfl ?_); refine store_event (t := 3) (p := 16) (v := ?vo_w11) (w1 := (w.setCell ⟨go6, ((ji3) : Int).toNat * 2 + 1, none⟩ (.int .i64 (wrap64 (((rd_T55 l0 (ji3)).f1) - 1))))) ?hg ?ho ?hn ?hr ?_; (case ho => rfl); (case hg => rfl); (case hn => rfl); (case hr => first | (go_simp; done) | (go_simp; rfl)); intro w11 hw; have hg : w.grownBy w11 (some go6) := (by rw [hw]; exact HP10.2); have hp_ : Kd.R k55 55 w11 w0.heap.size (fun k_ => (P0_ k_ ∨ w.heap.size ≤ k_)) (.slice (some ⟨go6, 0, none⟩) l0.length co9) y171 := (by rw [hw, Ny171.out]; exact HP10.1); clear HP10; replace HB := am ((by rw [hw]; exact below_set (HB.out) GB6.out : Below w0.heap.size w0 w11)); replace HK := am (Kept.of_grown (S := (fun k_ => P0_ k_)) hg (zq HK) (fun k_ e_ => (HO0.out.1 k_ e_))); replace HO0 := am (hp_); clear hg hw hp_; have p172 : 0 ≤ ((ji3) : Int) := of_decide_eq_true zl; have q172 : (ji3) < (y171.length : Int) := (by have h_ : ((ji3) : Int) < ((l0.length : Int) : Int) := of_decide_eq_true zl; first | (have e_ := (Kd.R_reads' HO0.out).1; omega) | simpa only [Ny171.out, List.length_set] using h_); have ql172 : (((ji3) : Int) < ((l0.length : Int) : Int)) = True := eq_true (of_decide_eq_true zl); obtain ⟨ad172, e172, hx172_0, hx172_1⟩ := at_T55 (Kd.R_reads' HO0.out).2.2 (ji3) p172 q172; obtain rfl : (⟨go6, 0, none⟩ : Addr) = ad172 := (by injection e172); (first | simp only [add_plain] at hx172_0 | simp only [add_at] at hx172_0 | simp only [Addr.add, Nat.zero_add] at hx172_0 | skip); (first | simp only [add_plain] at hx172_1 | simp only [add_at] at hx172_1 | simp only [Addr.add, Nat.zero_add] at hx172_1 | skip); replace p172 := eq_true p172; replace q172 := eq_true q172; have p8 : 0 ≤ ((ji3) : Int) := of_decide_eq_true zl; have q8 : ((ji3) : Int) < ((l0.length : Int) : Int) := of_decide_eq_true zl; obtain ⟨ce8, hcl8, hM8, hcc8, hfr8⟩ := Kd.R_elem HO0.out z55 ((ji3) : Int) p8 q8; obtain rfl := k55_openM hM8; have hx8_0 : w11.cell? ⟨go6, ((ji3) : Int).toNat * 2, none⟩ = some (.string ((rd_T55 y171 (ji3)).f0)) := hcc8 0 _ rfl; have hx8_1 : w11.cell? ⟨go6, ((ji3) : Int).toNat * 2 + 1, none⟩ = some (.int .i64 ((rd_T55 y171 (ji3)).f1)) := hcc8 1 _ rfl; have hf8_0 : w11.frozen? ⟨go6, ((ji3) : Int).toNat * 2, none⟩ = false := hfr8 0; have hf8_1 : w11.frozen? ⟨go6, ((ji3) : Int).toNat * 2 + 1, none⟩ = false := hfr8 1; clear hcl8 hcc8 hfr8 hM8; replace p8 := eq_true p8; replace q8 := eq_true q8; have HX12 := am (show Kd.R k55 55 w11 w0.heap.size (fun k_ => (P0_ k_ ∨ w.heap.size ≤ k_)) (.slice (some ⟨go6, 0, none⟩) l0.length co9) y171 from (zr HO0)); obtain ⟨ce12, hcl12, hM12, hcc12, hfr12⟩ := Kd.R_elem HX12.out z55 ((ji3) : Int) (of_decide_eq_true zl) (by have h_ : ((ji3) : Int) < ((l0.length : Int) : Int) := of_decide_eq_true zl; first | exact h_ | (have e_ := (Kd.R_reads' HO0.out).1; omega) | simpa using h_); obtain rfl := k55_openM hM12; have HP12 := Kd.R_seg HX12.out ((ji3) : Int) (of_decide_eq_true zl) (by have h_ : ((ji3) : Int) < ((l0.length : Int) : Int) := of_decide_eq_true zl; first | exact h_ | (have e_ := (Kd.R_reads' HO0.out).1; omega) | simpa using h_) (seg := [.string (⟨#[]⟩ : ByteArray)]) (j := 0) hcl12 hcc12 (show 1 ≤ 2 from by decide) (x' := (⟨(⟨#[]⟩ : ByteArray), (rd_T55 y171 (ji3)).f1⟩ : S55)) (k55_mkM _ _ _ (⟨(⟨#[]⟩ : ByteArray), (rd_T55 y171 (ji3)).f1⟩ : S55) ) (fun _ hk => hk); have hx12_0 := hcc12 0 _ rfl; (try simp only [show (k55).sz = 2 from rfl, Nat.mul_one, Nat.add_zero] at hx12_0); have hf12_0 := hfr12 0; (try simp only [show (k55).sz = 2 from rfl, Nat.mul_one, Nat.add_zero] at hf12_0); clear hcl12 hcc12 hfr12 hM12) | ((with_reducible refine gate_store (t := 9) (p := 28) rfl ?_); refine store_event (t := 9) (p := 28) (v := ?vo_w13) (w1 := (w11.setCell ⟨go6, ((ji3) : Int).toNat * 2, none⟩ (.string (⟨#[]⟩ : ByteArray)))) ?hg ?ho ?hn ?hr ?_; (case ho => rfl); (case hg => rfl); (case hn => rfl); (case hr => first | (go_simp; done) | (go_simp; rfl)); intro w13 hw; have hg : w11.grownBy w13 (some go6) := (by rw [hw]; exact HP12.2); have hp_ : Kd.R k55 55 w13 w0.heap.size (fun k_ => (P0_ k_ ∨ w.heap.size ≤ k_)) (.slice (some ⟨go6, 0, none⟩) l0.length co9) y173 := (by rw [hw, Ny173.out]; exact HP12.1); clear HP12; replace HB := am ((by rw [hw]; exact below_set (HB.out) GB6.out : Below w0.heap.size w0 w13)); replace HK := am (Kept.of_grown (S := (fun k_ => P0_ k_)) hg (zq HK) (fun k_ e_ => (HO0.out.1 k_ e_))); replace HO0 := am (hp_); clear hg hw hp_))
 go_ret
 exact ⟨_, by first | rfl | (simp [errW_none, errW_some] <;> rfl) | (simp only [← hji3]; first | rfl | (simp [errW_none, errW_some] <;> rfl)) | (simp [*, errW_none, errW_some] <;> rfl), (zr HO0), (zb HB), (zq HK)⟩
end Go.Proofs.Ytooamacekmjpaaa.PFnVolCount
