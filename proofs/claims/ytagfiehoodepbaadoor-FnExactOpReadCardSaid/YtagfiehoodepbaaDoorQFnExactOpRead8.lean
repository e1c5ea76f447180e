/- The walk: each function that the law comes to as a plain Lean function, and a proof that the Go code answers so. Written by this session's program over the kit's printer. -/
import Derived.Test.YtagfiehoodepbaaDoorZ
import Derived.Test.YtagfiehoodepbaaDoorQFnExactOpRead0
import Derived.Test.YtagfiehoodepbaaDoorQFnExactOpRead3
import Derived.Test.YtagfiehoodepbaaDoorQFnExactOpRead7
namespace Go.Proofs.YtagfiehoodepbaaDoor.PFnExactOpRead
open Go.RowKit Go.Proofs.YtagfiehoodepbaaDoorW.PrintWords Go.Proofs.YtagfiehoodepbaaDoorW.PrintLast Go.Proofs.YtagfiehoodepbaaDoorW.PrintMore
attribute [local go_sem] max2_int min2_int max_two min_two max_three min_three max_four min_four   -- for this text's walks alone
set_option linter.unusedVariables false
set_option linter.unusedSimpArgs false
/-! ### laws_FnExactOpRead: function 4 -/
def laws_FnExactOpRead.f (k : Nat) (a0 : ByteArray) : Option (Bool) := if (a0.size : Int) > 1048576 then (some true) else ((spec_OpRead.f k a0).bind fun bt183 => ((impl_OpRead.f k a0).bind fun bt190 => ((laws_eqOp.f bt190.1 bt190.2.1 bt190.2.2.1 bt190.2.2.2.1 bt190.2.2.2.2.1 bt183.1 bt183.2.1 bt183.2.2.1 bt183.2.2.2.1 bt183.2.2.2.2.1).bind fun t197 => (if t197 = true then (if (bt190.2.2.2.2.2 != bt183.2.2.2.2.2) = true then (some false) else (some true)) else (some false)))))
theorem laws_FnExactOpRead.mono : ∀ a0 k, LeO (laws_FnExactOpRead.f k a0) (laws_FnExactOpRead.f (k + 1) a0) := by
 intro a0 k
 unfold laws_FnExactOpRead.f
 exact mo2 @impl_OpRead.mono @spec_OpRead.mono
set_option maxHeartbeats 8000000 in
set_option maxRecDepth 100000 in
theorem laws_FnExactOpRead.calls (k : Nat) (a0 : ByteArray) (r : Bool) (w : World) (h : laws_FnExactOpRead.f k a0 = some r) (hW : ROK w) :
 Calls Tryd.prog 4 #[.string a0] w fun e w' => e = .returned (.bool r) ∧ Below w.heap.size w w' := by
 have HW_ := am hW
 clear hW
 have hu24 := Tryd.underlying24
 have HB := am (Below.refl w.heap.size w)
 have H : (if (a0.size : Int) > 1048576 then (some true) else ((spec_OpRead.f k a0).bind fun bt183 => ((impl_OpRead.f k a0).bind fun bt190 => ((laws_eqOp.f bt190.1 bt190.2.1 bt190.2.2.1 bt190.2.2.2.1 bt190.2.2.2.2.1 bt183.1 bt183.2.1 bt183.2.2.1 bt183.2.2.2.1 bt183.2.2.2.2.1).bind fun t197 => (if t197 = true then (if (bt190.2.2.2.2.2 != bt183.2.2.2.2.2) = true then (some false) else (some true)) else (some false)))))) = some r := h
 clear h
 by_cases c2 : (a0.size : Int) > 1048576
 · rw [if_pos c2] at H
   have c2b0 : decide (1048576 < (a0.size : Int)) = true := decide_eq_true c2
   have c2b1 : decide (1048576 < a0.size) = true := decide_eq_true (by omega)
   clear c2
   obtain rfl := Option.some.inj H
   go_enter Tryd.func4, Tryd.ntmps4
   go_wp2
   go_ret
   exact ⟨zv, (zb HB)⟩
 rw [if_neg c2] at H
 have c2b0 : decide (1048576 < (a0.size : Int)) = false := decide_eq_false c2
 have c2b1 : decide (1048576 < a0.size) = false := decide_eq_false (by omega)
 clear c2
 replace H := obs H
 obtain ⟨⟨t183, t184, t185, t186, t187, t188⟩, A30, H⟩ := H
 replace H : ((impl_OpRead.f k a0).bind fun bt190 => ((laws_eqOp.f bt190.1 bt190.2.1 bt190.2.2.1 bt190.2.2.2.1 bt190.2.2.2.2.1 t183 t184 t185 t186 t187).bind fun t197 => (if t197 = true then (if (bt190.2.2.2.2.2 != t188) = true then (some false) else (some true)) else (some false)))) = some r := H
 have A3 := am A30
 clear A30
 replace H := obs H
 obtain ⟨⟨t190, t191, t192, t193, t194, t195⟩, A40, H⟩ := H
 replace H : ((laws_eqOp.f t190 t191 t192 t193 t194 t183 t184 t185 t186 t187).bind fun t197 => (if t197 = true then (if (t195 != t188) = true then (some false) else (some true)) else (some false))) = some r := H
 have A4 := am A40
 clear A40
 replace H := obs H
 obtain ⟨t197, A50, H⟩ := H
 replace H : (if t197 = true then (if (t195 != t188) = true then (some false) else (some true)) else (some false)) = some r := H
 have A5 := am A50
 clear A50
 by_cases c6 : t197 = true
 rotate_left
 · replace c6 := Bool.eq_false_iff.mpr c6
   subst c6
   have H1 : (some false) = some r := by rw [if_neg (show ¬ (false = true) by decide)] at H; exact H
   clear H
   have H := H1
   clear H1
   obtain rfl := Option.some.inj H
   go_enter Tryd.func4, Tryd.ntmps4
   go_wp2_with (first | ((with_reducible refine gate_callee (f := 13) rfl ?_); refine goesL_ (some 12) rfl rfl Tryd.func13 (by kernel_rfl) rfl #[.string a0] rfl (by (try simp only [List.map_toArray, List.map_cons, List.map_nil]); first | done | rfl | (simp only [List.length_drop, List.length_take]; rfl)) ?_; (with_reducible refine (spec_OpRead.calls k a0 t183 t184 t185 t186 t187 t188 _ A3.out).mono ?_); rintro e w26 ⟨rfl, hb⟩; refine ⟨_, rfl, ?_⟩; replace HB := am (below_step (zb HB) hb); (try clear hb); (try clear hb2); (try clear hk); (try clear hi)) | ((with_reducible refine gate_dst (N := 3) rfl ?_); refine bx 24 #[.int .i64 0, .string (⟨#[]⟩ : ByteArray), .string (⟨#[]⟩ : ByteArray), .int .i64 0, .string (⟨#[]⟩ : ByteArray)] ?_; intro gb189 hg w27 hbox hb; have BK189 := am (hbox); have GW189 := am (zn hg (zb HB)); have GE189 := am (zn hg (zb HB)); replace HB := am (below_step (zb HB) hb); clear hb hbox hg; have hcz28_0 := ce0 BK189; have hcz28_1 := ce1 BK189; have hcz28_2 := ce2 BK189; have hcz28_3 := ce3 BK189; have hcz28_4 := ce4 BK189; have hfz28_0 := bfz BK189 0; have hfz28_1 := bfz BK189 1; have hfz28_2 := bfz BK189 2; have hfz28_3 := bfz BK189 3; have hfz28_4 := bfz BK189 4) | ((with_reducible refine gate_callee (f := 12) rfl ?_); refine goesL_ (some 17) rfl rfl Tryd.func12 (by kernel_rfl) rfl #[.string a0] rfl (by (try simp only [List.map_toArray, List.map_cons, List.map_nil]); first | done | rfl | (simp only [List.length_drop, List.length_take]; rfl)) ?_; (with_reducible refine (impl_OpRead.calls k a0 t190 t191 t192 t193 t194 t195 _ A4.out).mono ?_); rintro e w29 ⟨rfl, hb⟩; refine ⟨_, rfl, ?_⟩; replace BK189 := am (blk_below (g := gb189) (o := .cells #[.int .i64 t183, .string t184, .string t185, .int .i64 t186, .string t187] 24 (0, 0)) (zp BK189) hb); replace HB := am (below_step (zb HB) hb); (try clear hb); (try clear hb2); (try clear hk); (try clear hi)) | ((with_reducible refine gate_dst (N := 5) rfl ?_); refine bx 24 #[.int .i64 0, .string (⟨#[]⟩ : ByteArray), .string (⟨#[]⟩ : ByteArray), .int .i64 0, .string (⟨#[]⟩ : ByteArray)] ?_; intro gb196 hg w30 hbox hb; have BK196 := am (hbox); have GW196 := am (zn hg (zb HB)); have GE196 := am (zn hg (zb HB)); replace HB := am (below_step (zb HB) hb); have NB189_196 := am (zx hg (zk BK189)); have NB196_189 := am (zy hg (zk BK189)); replace BK189 := am (blk_below (zk BK189) hb); clear hb hbox hg; have hnb31 := NB196_189.out; have hnc31 := NB189_196.out; have hcz32_0 := ce0 BK196; have hcz32_1 := ce1 BK196; have hcz32_2 := ce2 BK196; have hcz32_3 := ce3 BK196; have hcz32_4 := ce4 BK196; have hfz32_0 := bfz BK196 0; have hfz32_1 := bfz BK196 1; have hfz32_2 := bfz BK196 2; have hfz32_3 := bfz BK196 3; have hfz32_4 := bfz BK196 4; have hcz33_0 := ce0 BK189; have hcz33_1 := ce1 BK189; have hcz33_2 := ce2 BK189; have hcz33_3 := ce3 BK189; have hcz33_4 := ce4 BK189; have hfz33_0 := bfz BK189 0; have hfz33_1 := bfz BK189 1; have hfz33_2 := bfz BK189 2; have hfz33_3 := bfz BK189 3; have hfz33_4 := bfz BK189 4) | ((with_reducible refine gate_callee (f := 14) rfl ?_); refine goesL_ (some 22) rfl rfl Tryd.func14 (by kernel_rfl) rfl #[.agg #[.int .i64 t190, .string t191, .string t192, .int .i64 t193, .string t194], .agg #[.int .i64 t183, .string t184, .string t185, .int .i64 t186, .string t187]] rfl (by (try simp only [List.map_toArray, List.map_cons, List.map_nil]); first | done | rfl | (simp only [List.length_drop, List.length_take]; rfl)) ?_; (with_reducible refine (laws_eqOp.calls t190 t191 t192 t193 t194 t183 t184 t185 t186 t187 false _ A5.out).mono ?_); rintro e w34 ⟨rfl, hb⟩; refine ⟨_, rfl, ?_⟩; replace BK189 := am (blk_below (zk BK189) hb); replace BK196 := am (blk_below (g := gb196) (o := .cells #[.int .i64 t190, .string t191, .string t192, .int .i64 t193, .string t194] 24 (0, 0)) (zp BK196) hb); replace HB := am (below_step (zb HB) hb); (try clear hb); (try clear hb2); (try clear hk); (try clear hi)))
   go_ret
   exact ⟨zv, (zb HB)⟩
 subst c6
 have H1 : (if (t195 != t188) = true then (some false) else (some true)) = some r := by rw [if_pos rfl] at H; exact H
 clear H
 have H := H1
 clear H1
 by_cases c7 : (t195 != t188) = true
 · rw [if_pos c7] at H
   have c7b0 : (t195 != t188) = true := c7
   (try (have c7b1 : decide (t195 = t188) = false := by simpa using c7))
   (try (have c7b2 : (t195 == t188) = false := by simpa using c7))
   (try (have c7b3 : ¬ (t195 = t188) := by simpa using c7))
   clear c7
   obtain rfl := Option.some.inj H
   go_enter Tryd.func4, Tryd.ntmps4
   go_wp2_with (first | ((with_reducible refine gate_callee (f := 13) rfl ?_); refine goesL_ (some 12) rfl rfl Tryd.func13 (by kernel_rfl) rfl #[.string a0] rfl (by (try simp only [List.map_toArray, List.map_cons, List.map_nil]); first | done | rfl | (simp only [List.length_drop, List.length_take]; rfl)) ?_; (with_reducible refine (spec_OpRead.calls k a0 t183 t184 t185 t186 t187 t188 _ A3.out).mono ?_); rintro e w8 ⟨rfl, hb⟩; refine ⟨_, rfl, ?_⟩; replace HB := am (below_step (zb HB) hb); (try clear hb); (try clear hb2); (try clear hk); (try clear hi)) | ((with_reducible refine gate_dst (N := 3) rfl ?_); refine bx 24 #[.int .i64 0, .string (⟨#[]⟩ : ByteArray), .string (⟨#[]⟩ : ByteArray), .int .i64 0, .string (⟨#[]⟩ : ByteArray)] ?_; intro gb189 hg w9 hbox hb; have BK189 := am (hbox); have GW189 := am (zn hg (zb HB)); have GE189 := am (zn hg (zb HB)); replace HB := am (below_step (zb HB) hb); clear hb hbox hg; have hcz10_0 := ce0 BK189; have hcz10_1 := ce1 BK189; have hcz10_2 := ce2 BK189; have hcz10_3 := ce3 BK189; have hcz10_4 := ce4 BK189; have hfz10_0 := bfz BK189 0; have hfz10_1 := bfz BK189 1; have hfz10_2 := bfz BK189 2; have hfz10_3 := bfz BK189 3; have hfz10_4 := bfz BK189 4) | ((with_reducible refine gate_callee (f := 12) rfl ?_); refine goesL_ (some 17) rfl rfl Tryd.func12 (by kernel_rfl) rfl #[.string a0] rfl (by (try simp only [List.map_toArray, List.map_cons, List.map_nil]); first | done | rfl | (simp only [List.length_drop, List.length_take]; rfl)) ?_; (with_reducible refine (impl_OpRead.calls k a0 t190 t191 t192 t193 t194 t195 _ A4.out).mono ?_); rintro e w11 ⟨rfl, hb⟩; refine ⟨_, rfl, ?_⟩; replace BK189 := am (blk_below (g := gb189) (o := .cells #[.int .i64 t183, .string t184, .string t185, .int .i64 t186, .string t187] 24 (0, 0)) (zp BK189) hb); replace HB := am (below_step (zb HB) hb); (try clear hb); (try clear hb2); (try clear hk); (try clear hi)) | ((with_reducible refine gate_dst (N := 5) rfl ?_); refine bx 24 #[.int .i64 0, .string (⟨#[]⟩ : ByteArray), .string (⟨#[]⟩ : ByteArray), .int .i64 0, .string (⟨#[]⟩ : ByteArray)] ?_; intro gb196 hg w12 hbox hb; have BK196 := am (hbox); have GW196 := am (zn hg (zb HB)); have GE196 := am (zn hg (zb HB)); replace HB := am (below_step (zb HB) hb); have NB189_196 := am (zx hg (zk BK189)); have NB196_189 := am (zy hg (zk BK189)); replace BK189 := am (blk_below (zk BK189) hb); clear hb hbox hg; have hnb13 := NB196_189.out; have hnc13 := NB189_196.out; have hcz14_0 := ce0 BK196; have hcz14_1 := ce1 BK196; have hcz14_2 := ce2 BK196; have hcz14_3 := ce3 BK196; have hcz14_4 := ce4 BK196; have hfz14_0 := bfz BK196 0; have hfz14_1 := bfz BK196 1; have hfz14_2 := bfz BK196 2; have hfz14_3 := bfz BK196 3; have hfz14_4 := bfz BK196 4; have hcz15_0 := ce0 BK189; have hcz15_1 := ce1 BK189; have hcz15_2 := ce2 BK189; have hcz15_3 := ce3 BK189; have hcz15_4 := ce4 BK189; have hfz15_0 := bfz BK189 0; have hfz15_1 := bfz BK189 1; have hfz15_2 := bfz BK189 2; have hfz15_3 := bfz BK189 3; have hfz15_4 := bfz BK189 4) | ((with_reducible refine gate_callee (f := 14) rfl ?_); refine goesL_ (some 22) rfl rfl Tryd.func14 (by kernel_rfl) rfl #[.agg #[.int .i64 t190, .string t191, .string t192, .int .i64 t193, .string t194], .agg #[.int .i64 t183, .string t184, .string t185, .int .i64 t186, .string t187]] rfl (by (try simp only [List.map_toArray, List.map_cons, List.map_nil]); first | done | rfl | (simp only [List.length_drop, List.length_take]; rfl)) ?_; (with_reducible refine (laws_eqOp.calls t190 t191 t192 t193 t194 t183 t184 t185 t186 t187 true _ A5.out).mono ?_); rintro e w16 ⟨rfl, hb⟩; refine ⟨_, rfl, ?_⟩; replace BK189 := am (blk_below (zk BK189) hb); replace BK196 := am (blk_below (g := gb196) (o := .cells #[.int .i64 t190, .string t191, .string t192, .int .i64 t193, .string t194] 24 (0, 0)) (zp BK196) hb); replace HB := am (below_step (zb HB) hb); (try clear hb); (try clear hb2); (try clear hk); (try clear hi)))
   go_ret
   exact ⟨zv, (zb HB)⟩
 rw [if_neg c7] at H
 have c7b0 : (t195 != t188) = false := by simpa using c7
 (try (have c7b1 : decide (t195 = t188) = true := by simpa using c7))
 (try (have c7b2 : (t195 == t188) = true := by simpa using c7))
 clear c7
 obtain rfl := Option.some.inj H
 go_enter Tryd.func4, Tryd.ntmps4
 go_wp2_with (first | ((with_reducible refine gate_callee (f := 13) rfl ?_); refine goesL_ (some 12) rfl rfl Tryd.func13 (by kernel_rfl) rfl #[.string a0] rfl (by (try simp only [List.map_toArray, List.map_cons, List.map_nil]); first | done | rfl | (simp only [List.length_drop, List.length_take]; rfl)) ?_; (with_reducible refine (spec_OpRead.calls k a0 t183 t184 t185 t186 t187 t188 _ A3.out).mono ?_); rintro e w17 ⟨rfl, hb⟩; refine ⟨_, rfl, ?_⟩; replace HB := am (below_step (zb HB) hb); (try clear hb); (try clear hb2); (try clear hk); (try clear hi)) | ((with_reducible refine gate_dst (N := 3) rfl ?_); refine bx 24 #[.int .i64 0, .string (⟨#[]⟩ : ByteArray), .string (⟨#[]⟩ : ByteArray), .int .i64 0, .string (⟨#[]⟩ : ByteArray)] ?_; intro gb189 hg w18 hbox hb; have BK189 := am (hbox); have GW189 := am (zn hg (zb HB)); have GE189 := am (zn hg (zb HB)); replace HB := am (below_step (zb HB) hb); clear hb hbox hg; have hcz19_0 := ce0 BK189; have hcz19_1 := ce1 BK189; have hcz19_2 := ce2 BK189; have hcz19_3 := ce3 BK189; have hcz19_4 := ce4 BK189; have hfz19_0 := bfz BK189 0; have hfz19_1 := bfz BK189 1; have hfz19_2 := bfz BK189 2; have hfz19_3 := bfz BK189 3; have hfz19_4 := bfz BK189 4) | ((with_reducible refine gate_callee (f := 12) rfl ?_); refine goesL_ (some 17) rfl rfl Tryd.func12 (by kernel_rfl) rfl #[.string a0] rfl (by (try simp only [List.map_toArray, List.map_cons, List.map_nil]); first | done | rfl | (simp only [List.length_drop, List.length_take]; rfl)) ?_; (with_reducible refine (impl_OpRead.calls k a0 t190 t191 t192 t193 t194 t195 _ A4.out).mono ?_); rintro e w20 ⟨rfl, hb⟩; refine ⟨_, rfl, ?_⟩; replace BK189 := am (blk_below (g := gb189) (o := .cells #[.int .i64 t183, .string t184, .string t185, .int .i64 t186, .string t187] 24 (0, 0)) (zp BK189) hb); replace HB := am (below_step (zb HB) hb); (try clear hb); (try clear hb2); (try clear hk); (try clear hi)) | ((with_reducible refine gate_dst (N := 5) rfl ?_); refine bx 24 #[.int .i64 0, .string (⟨#[]⟩ : ByteArray), .string (⟨#[]⟩ : ByteArray), .int .i64 0, .string (⟨#[]⟩ : ByteArray)] ?_; intro gb196 hg w21 hbox hb; have BK196 := am (hbox); have GW196 := am (zn hg (zb HB)); have GE196 := am (zn hg (zb HB)); replace HB := am (below_step (zb HB) hb); have NB189_196 := am (zx hg (zk BK189)); have NB196_189 := am (zy hg (zk BK189)); replace BK189 := am (blk_below (zk BK189) hb); clear hb hbox hg; have hnb22 := NB196_189.out; have hnc22 := NB189_196.out; have hcz23_0 := ce0 BK196; have hcz23_1 := ce1 BK196; have hcz23_2 := ce2 BK196; have hcz23_3 := ce3 BK196; have hcz23_4 := ce4 BK196; have hfz23_0 := bfz BK196 0; have hfz23_1 := bfz BK196 1; have hfz23_2 := bfz BK196 2; have hfz23_3 := bfz BK196 3; have hfz23_4 := bfz BK196 4; have hcz24_0 := ce0 BK189; have hcz24_1 := ce1 BK189; have hcz24_2 := ce2 BK189; have hcz24_3 := ce3 BK189; have hcz24_4 := ce4 BK189; have hfz24_0 := bfz BK189 0; have hfz24_1 := bfz BK189 1; have hfz24_2 := bfz BK189 2; have hfz24_3 := bfz BK189 3; have hfz24_4 := bfz BK189 4) | ((with_reducible refine gate_callee (f := 14) rfl ?_); refine goesL_ (some 22) rfl rfl Tryd.func14 (by kernel_rfl) rfl #[.agg #[.int .i64 t190, .string t191, .string t192, .int .i64 t193, .string t194], .agg #[.int .i64 t183, .string t184, .string t185, .int .i64 t186, .string t187]] rfl (by (try simp only [List.map_toArray, List.map_cons, List.map_nil]); first | done | rfl | (simp only [List.length_drop, List.length_take]; rfl)) ?_; (with_reducible refine (laws_eqOp.calls t190 t191 t192 t193 t194 t183 t184 t185 t186 t187 true _ A5.out).mono ?_); rintro e w25 ⟨rfl, hb⟩; refine ⟨_, rfl, ?_⟩; replace BK189 := am (blk_below (zk BK189) hb); replace BK196 := am (blk_below (g := gb196) (o := .cells #[.int .i64 t190, .string t191, .string t192, .int .i64 t193, .string t194] 24 (0, 0)) (zp BK196) hb); replace HB := am (below_step (zb HB) hb); (try clear hb); (try clear hb2); (try clear hk); (try clear hi)))
 go_ret
 exact ⟨zv, (zb HB)⟩
/-- THE ONE PURE STATEMENT of laws_FnExactOpRead: yours. -/
def laws_FnExactOpRead.Pure : Prop := ∀ (a0 : ByteArray), a0.size ≤ 140737488351232 → ∃ k, laws_FnExactOpRead.f k a0 = some true
theorem laws_FnExactOpRead.walk (P : laws_FnExactOpRead.Pure) (a0 : ByteArray) (w : World) (w0 : a0.size ≤ 140737488351232) (hW : ROK w) :
 Calls Tryd.prog 4 #[.string a0] w fun e w' => e = .returned (.bool true) ∧ Below w.heap.size w w' := by
 obtain ⟨k, h⟩ := P a0 w0
 refine (laws_FnExactOpRead.calls k a0 true w h hW).mono ?_
 rintro e w' ⟨rfl, hd⟩
 exact ⟨rfl, hd⟩
end Go.Proofs.YtagfiehoodepbaaDoor.PFnExactOpRead
