/- The walk: each function that the law comes to as a plain Lean function, and a proof that the Go code answers so. Written by this session's program over the kit's printer. -/
import Derived.Test.YtooamacekmjpaaaZ
import Derived.Test.YtooamacekmjpaaaQFnVolCount0
import Derived.Test.YtooamacekmjpaaaQFnVolCount1
import Derived.Test.YtooamacekmjpaaaQFnVolCount6
namespace Go.Proofs.Ytooamacekmjpaaa.PFnVolCount
open Go.RowKit Go.Proofs.YtooamacekmjpaaaW.PrintWords Go.Proofs.YtooamacekmjpaaaW.PrintLast Go.Proofs.YtooamacekmjpaaaW.PrintMore
attribute [local go_sem] max2_int min2_int max_two min_two max_three min_three max_four min_four   -- for this text's walks alone
set_option linter.unusedVariables false
set_option linter.unusedSimpArgs false
/-! ### spec_l71Text: function 94 -/
def spec_l71Text.l0 : Nat → ByteArray → Int → List Int → Int → Option (ByteArray × Int)
 | 0, _, _, _, _ => none
 | k + 1, x3, x4, x1000, x1001 => if x4 > 0 then ((spec_l6Rd_of.f k x1000 x1001 (([(⟨#[97]⟩ : ByteArray), (⟨#[98]⟩ : ByteArray), (⟨#[99]⟩ : ByteArray), (⟨#[100]⟩ : ByteArray), (⟨#[97]⟩ : ByteArray)] : List ByteArray))).bind fun bt300 => (if x3.size + bt300.1.size ≤ 9223372036854775807 then (spec_l71Text.l0 k (x3 ++ bt300.1) (wrap64 (x4 - 1)) x1000 bt300.2) else (none))) else ((spec_l6Rd_pick.f k x1000 x1001 30).bind fun bt302 => (if bt302.1 = 0 then ((spec_l6Rd_of.f k x1000 bt302.2 (([(⟨#[101]⟩ : ByteArray), (⟨#[97, 97, 97, 97]⟩ : ByteArray), (⟨#[32]⟩ : ByteArray), (⟨#[65]⟩ : ByteArray)] : List ByteArray))).bind fun bt307 => (if x3.size + bt307.1.size ≤ 9223372036854775807 then (some (x3 ++ bt307.1, bt307.2)) else (none))) else (some (x3, bt302.2))))
def spec_l71Text.f (k : Nat) (s0_0 : List Int) (s0_1 : Int) : Option (ByteArray × Int) := (spec_l6Rd_pick.f k s0_0 s0_1 4).bind fun bt295 => (spec_l71Text.l0 k (⟨#[]⟩ : ByteArray) bt295.1 s0_0 bt295.2)
theorem spec_l71Text.mono_l : ∀ k, (∀ y0 y1 y2 y3, LeO (spec_l71Text.l0 k y0 y1 y2 y3) (spec_l71Text.l0 (k + 1) y0 y1 y2 y3))
 | 0 => fun _ _ _ _ r h => by simp [spec_l71Text.l0] at h
 | k + 1 => by
  have ih0 := spec_l71Text.mono_l k
  intro y0 y1 y2 y3
  unfold spec_l71Text.l0
  exact mo3 ih0 @spec_l6Rd_of.mono @spec_l6Rd_pick.mono
theorem spec_l71Text.mono : ∀ a0 a1 k, LeO (spec_l71Text.f k a0 a1) (spec_l71Text.f (k + 1) a0 a1) := by
 intro a0 a1 k
 have ih0 := spec_l71Text.mono_l k
 unfold spec_l71Text.f
 exact mo3 ih0 @spec_l6Rd_of.mono @spec_l6Rd_pick.mono
set_option maxHeartbeats 8000000 in
set_option maxRecDepth 100000 in
theorem spec_l71Text.calls (k : Nat) (g : Nat) (s0_0 : List Int) (s0_1 : Int) (r1 : ByteArray) (r2 : Int) (w0 w : World) (hI : IsS93 w0 w g s0_0 s0_1) (hB : Below w0.heap.size w0 w) (h : spec_l71Text.f k s0_0 s0_1 = some (r1, r2)) :
 Calls Try.prog 94 #[.pointer (some ⟨g, 0, none⟩)] w fun e w' => e = .returned (.string r1) ∧ IsS93 w0 w' g s0_0 r2 ∧ Below w0.heap.size w0 w' ∧ KeepBut w w' g none := by
 have HI0 := am hI
 have HK := am (KeepBut.refl w g none)
 have HL := am hB.size
 clear hI
 have HW0 := am hB.size
 have HB := am hB
 clear hB
 have H : ((spec_l6Rd_pick.f k s0_0 s0_1 4).bind fun bt295 => (spec_l71Text.l0 k (⟨#[]⟩ : ByteArray) bt295.1 s0_0 bt295.2)) = some (r1, r2) := h
 clear h
 replace H := obs H
 obtain ⟨⟨t295, t296⟩, A20, H⟩ := H
 replace H : (spec_l71Text.l0 k (⟨#[]⟩ : ByteArray) t295 s0_0 t296) = some (r1, r2) := H
 have A2 := am A20
 clear A20
 have H' := am H
 clear H
 go_enter Try.func94, Try.ntmps94
 go_wp2_with (first | ((with_reducible refine gate_callee (f := 51) rfl ?_); refine gl Try.func51 6 #[.pointer (some ⟨g, 0, none⟩), .int .i64 4] rfl rfl rfl ?_; (with_reducible refine (spec_l6Rd_pick.calls k g s0_0 s0_1 4 t295 t296 w0 _ ?side1 ?side2 A2.out).mono ?_); (case side1 => exact zi HI0); (case side2 => exact zb HB); rintro e w3 ⟨rfl, hi, hb, hk⟩; refine ⟨_, rfl, ?_⟩; replace HK := am (KeepBut.trans (zh HK) hk (.inl rfl)); replace HB := am (hb); replace HI0 := am (hi); (try clear hb); (try clear hb2); (try clear hk); (try clear hi)))
 go_loopg [3, 4] k (fun kq v3 v4 w' => ∃ (x3_1 : ByteArray) (x4_1 : Int) (x1001_1 : Int), v3 = .string x3_1 ∧ v4 = .int .i64 x4_1 ∧ Aside0 (spec_l71Text.l0 kq x3_1 x4_1 s0_0 x1001_1 = some (r1, r2)) ∧ Aside0 (kq ≤ k) ∧ Aside0 (IsS93 w0 w' g s0_0 x1001_1) ∧ Aside0 (KeepBut w w' g none) ∧ Aside0 (Below w0.heap.size w0 w'))
 case atStart => exact ⟨((⟨#[]⟩ : ByteArray)), (t295), (t296), ze, ze, H', ⟨Nat.le_refl _⟩, ⟨zi HI0⟩, ⟨zh HK⟩, ⟨zb HB⟩⟩
 case round =>
  clear H'
  try clear p2
  obtain ⟨x3_1, x4_1, x1001_1, rfl, rfl, HA, HK1, HI0, HK, HB⟩ := hrel
  cases gk with
  | zero => exact absurd HA.out (by simp [spec_l71Text.l0])
  | succ k1 =>
   have H := HA.out
   clear HA
   simp only [spec_l71Text.l0] at H
   by_cases c4 : x4_1 > 0
   · rw [if_pos c4] at H
     have c4b0 : decide (0 < x4_1) = true := decide_eq_true c4
     clear c4
     obtain ⟨y297, hy297⟩ : ∃ y_ : List ByteArray, y_ = (([(⟨#[97]⟩ : ByteArray), (⟨#[98]⟩ : ByteArray), (⟨#[99]⟩ : ByteArray), (⟨#[100]⟩ : ByteArray), (⟨#[97]⟩ : ByteArray)] : List ByteArray)) := ⟨_, rfl⟩
     replace H : ((spec_l6Rd_of.f k1 s0_0 x1001_1 y297).bind fun bt300 => (if x3_1.size + bt300.1.size ≤ 9223372036854775807 then (spec_l71Text.l0 k1 (x3_1 ++ bt300.1) (wrap64 (x4_1 - 1)) s0_0 bt300.2) else (none))) = some (r1, r2) := hY hy297 H
     have Ny297 := am hy297
     clear hy297
     replace H := obs H
     obtain ⟨⟨t300, t301⟩, A50, H⟩ := H
     replace H : (if x3_1.size + t300.size ≤ 9223372036854775807 then (spec_l71Text.l0 k1 (x3_1 ++ t300) (wrap64 (x4_1 - 1)) s0_0 t301) else (none)) = some (r1, r2) := H
     have A5 := am A50
     clear A50
     by_cases c6 : x3_1.size + t300.size ≤ 9223372036854775807
     rotate_left
     · rw [if_neg c6] at H
       exact absurd H (by simp)
     rw [if_pos c6] at H
     have c6b0 := eq_true c6
     have c6b1 : decide (x3_1.size + t300.size ≤ 9223372036854775807) = true := decide_eq_true c6
     try have c6b2 : (9223372036854775807 < x3_1.size + t300.size) = False := eq_false (Nat.not_lt.2 c6)
     have H' := am H
     clear H
     go_wp2_with (first | ((with_reducible refine gate_dst (N := 13) rfl ?_); refine Kd.R_lit Kd.string _ 9 ?hg (N := 13) ?hd (xs := ([(⟨#[97]⟩ : ByteArray), (⟨#[98]⟩ : ByteArray), (⟨#[99]⟩ : ByteArray), (⟨#[100]⟩ : ByteArray), (⟨#[97]⟩ : ByteArray)] : List ByteArray)) (inner := [.string (⟨#[97]⟩ : ByteArray), .string (⟨#[98]⟩ : ByteArray), .string (⟨#[99]⟩ : ByteArray), .string (⟨#[100]⟩ : ByteArray), .string (⟨#[97]⟩ : ByteArray)]) (ok := fun _ => True) (okp := fun _ => True) ?hr ?hp (fun _ hk => hk) trivial (Below.refl _ _) (Nat.le_refl _) (by simp) ?_; (case hd => rfl); (case hg => rfl); (case hr => first | (go_simp; done) | (go_simp; rfl)); (case hp => exact (Reps.one (show Kd.M Kd.string _ _ _ (⟨#[97]⟩ : ByteArray) [.string (⟨#[97]⟩ : ByteArray)] from rfl) (Reps.one (show Kd.M Kd.string _ _ _ (⟨#[98]⟩ : ByteArray) [.string (⟨#[98]⟩ : ByteArray)] from rfl) (Reps.one (show Kd.M Kd.string _ _ _ (⟨#[99]⟩ : ByteArray) [.string (⟨#[99]⟩ : ByteArray)] from rfl) (Reps.one (show Kd.M Kd.string _ _ _ (⟨#[100]⟩ : ByteArray) [.string (⟨#[100]⟩ : ByteArray)] from rfl) (Reps.one (show Kd.M Kd.string _ _ _ (⟨#[97]⟩ : ByteArray) [.string (⟨#[97]⟩ : ByteArray)] from rfl) (Reps.none _ _))))))); intro v298 w7 ho8 hb hg_ hnew_; clear hg_ hnew_; (first | rw [← Ny297.out] at ho8 | (simp only [Int.reduceToNat] at ho8; rw [← Ny297.out] at ho8)); have HO299 := am (Kd.R_lower ho8 (keep_size (zh HK))); replace HI0 := am (IsS93.below (zi HI0) hb); replace HK := am (KeepBut.trans (zh HK) (KeepBut.of_below hb g none) (.inl rfl)); replace HB := am (below_step (zb HB) hb); clear hb ho8; obtain ⟨Ao9, co9, eo9⟩ := Kd.R_slice HO299.out; subst eo9) | ((with_reducible refine gate_callee (f := 52) rfl ?_); refine gl Try.func52 14 #[.pointer (some ⟨g, 0, none⟩), .slice Ao9 y297.length co9] rfl rfl rfl ?_; (with_reducible refine (spec_l6Rd_of.calls k1 g s0_0 x1001_1 _ _ y297 t300 t301 w0 _ ?side1 ?side2 ?side3 ?side4 ?side5 A5.out).mono ?_); (case side1 => exact zi HI0); (case side2 => exact zb HB); (case side3 => exact zc (Kd.R_reads' HO299.out).2.2); (case side4 => exact (Kd.R_reads' HO299.out).2.1); (case side5 => exact far_slice (IsS93.own_ne HI0.out HO299.out (by decide))); rintro e w10 ⟨rfl, hi, hb, hk⟩; refine ⟨_, rfl, ?_⟩; replace HO299 := am (Kd.R_mono (Kd.R_keep (IsS93.apart (zi HI0) (zr HO299) (by decide)) hk (fun _ h => h.2)) (fun _ h => h.1)); replace HK := am (KeepBut.trans (zh HK) hk (.inl rfl)); replace HB := am (hb); replace HI0 := am (hi); (try clear hb); (try clear hb2); (try clear hk); (try clear hi)))
     go_roundg k1
     case measure => have := HK1.out; omega
     case rel => exact ⟨(x3_1 ++ t300), (wrap64 (x4_1 - 1)), (t301), ze, ze, H', ⟨by have := HK1.out; omega⟩, ⟨zi HI0⟩, ⟨zh HK⟩, ⟨zb HB⟩⟩
   rw [if_neg c4] at H
   have c4b0 : decide (0 < x4_1) = false := decide_eq_false c4
   clear c4
   replace H := obs H
   obtain ⟨⟨t302, t303⟩, A110, H⟩ := H
   replace H : (if t302 = 0 then ((spec_l6Rd_of.f k1 s0_0 t303 (([(⟨#[101]⟩ : ByteArray), (⟨#[97, 97, 97, 97]⟩ : ByteArray), (⟨#[32]⟩ : ByteArray), (⟨#[65]⟩ : ByteArray)] : List ByteArray))).bind fun bt307 => (if x3_1.size + bt307.1.size ≤ 9223372036854775807 then (some (x3_1 ++ bt307.1, bt307.2)) else (none))) else (some (x3_1, t303))) = some (r1, r2) := H
   have A11 := am A110
   clear A110
   by_cases c12 : t302 = 0
   rotate_left
   · rw [if_neg c12] at H
     have c12b0 : (t302 == 0) = false := beq_eq_false_iff_ne.mpr c12
     have c12b1 : (t302 != 0) = true := bne_iff_ne.mpr c12
     simp only [Option.some.injEq, Prod.mk.injEq] at H
     obtain ⟨rfl, rfl⟩ := H
     go_wp2_with (first | ((with_reducible refine gate_callee (f := 51) rfl ?_); refine gl Try.func51 17 #[.pointer (some ⟨g, 0, none⟩), .int .i64 30] rfl rfl rfl ?_; (with_reducible refine (spec_l6Rd_pick.calls k1 g s0_0 x1001_1 30 t302 t303 w0 _ ?side1 ?side2 A11.out).mono ?_); (case side1 => exact zi HI0); (case side2 => exact zb HB); rintro e w20 ⟨rfl, hi, hb, hk⟩; refine ⟨_, rfl, ?_⟩; replace HK := am (KeepBut.trans (zh HK) hk (.inl rfl)); replace HB := am (hb); replace HI0 := am (hi); (try clear hb); (try clear hb2); (try clear hk); (try clear hi)))
     go_ret
     exact ⟨zv, (zi HI0), (zb HB), (zh HK)⟩
   rw [if_pos c12] at H
   have c12b0 : (t302 == 0) = true := beq_iff_eq.mpr c12
   have c12b1 : (t302 != 0) = false := bne_eq_false_iff_eq.mpr c12
   clear c12
   obtain ⟨y304, hy304⟩ : ∃ y_ : List ByteArray, y_ = (([(⟨#[101]⟩ : ByteArray), (⟨#[97, 97, 97, 97]⟩ : ByteArray), (⟨#[32]⟩ : ByteArray), (⟨#[65]⟩ : ByteArray)] : List ByteArray)) := ⟨_, rfl⟩
   replace H : ((spec_l6Rd_of.f k1 s0_0 t303 y304).bind fun bt307 => (if x3_1.size + bt307.1.size ≤ 9223372036854775807 then (some (x3_1 ++ bt307.1, bt307.2)) else (none))) = some (r1, r2) := hY hy304 H
   have Ny304 := am hy304
   clear hy304
   replace H := obs H
   obtain ⟨⟨t307, t308⟩, A130, H⟩ := H
   replace H : (if x3_1.size + t307.size ≤ 9223372036854775807 then (some (x3_1 ++ t307, t308)) else (none)) = some (r1, r2) := H
   have A13 := am A130
   clear A130
   by_cases c14 : x3_1.size + t307.size ≤ 9223372036854775807
   rotate_left
   · rw [if_neg c14] at H
     exact absurd H (by simp)
   rw [if_pos c14] at H
   have c14b0 := eq_true c14
   have c14b1 : decide (x3_1.size + t307.size ≤ 9223372036854775807) = true := decide_eq_true c14
   try have c14b2 : (9223372036854775807 < x3_1.size + t307.size) = False := eq_false (Nat.not_lt.2 c14)
   simp only [Option.some.injEq, Prod.mk.injEq] at H
   obtain ⟨rfl, rfl⟩ := H
   go_wp2_with (first | ((with_reducible refine gate_callee (f := 51) rfl ?_); refine gl Try.func51 17 #[.pointer (some ⟨g, 0, none⟩), .int .i64 30] rfl rfl rfl ?_; (with_reducible refine (spec_l6Rd_pick.calls k1 g s0_0 x1001_1 30 t302 t303 w0 _ ?side1 ?side2 A11.out).mono ?_); (case side1 => exact zi HI0); (case side2 => exact zb HB); rintro e w15 ⟨rfl, hi, hb, hk⟩; refine ⟨_, rfl, ?_⟩; replace HK := am (KeepBut.trans (zh HK) hk (.inl rfl)); replace HB := am (hb); replace HI0 := am (hi); (try clear hb); (try clear hb2); (try clear hk); (try clear hi)) | ((with_reducible refine gate_dst (N := 21) rfl ?_); refine Kd.R_lit Kd.string _ 9 ?hg (N := 21) ?hd (xs := ([(⟨#[101]⟩ : ByteArray), (⟨#[97, 97, 97, 97]⟩ : ByteArray), (⟨#[32]⟩ : ByteArray), (⟨#[65]⟩ : ByteArray)] : List ByteArray)) (inner := [.string (⟨#[101]⟩ : ByteArray), .string (⟨#[97, 97, 97, 97]⟩ : ByteArray), .string (⟨#[32]⟩ : ByteArray), .string (⟨#[65]⟩ : ByteArray)]) (ok := fun _ => True) (okp := fun _ => True) ?hr ?hp (fun _ hk => hk) trivial (Below.refl _ _) (Nat.le_refl _) (by simp) ?_; (case hd => rfl); (case hg => rfl); (case hr => first | (go_simp; done) | (go_simp; rfl)); (case hp => exact (Reps.one (show Kd.M Kd.string _ _ _ (⟨#[101]⟩ : ByteArray) [.string (⟨#[101]⟩ : ByteArray)] from rfl) (Reps.one (show Kd.M Kd.string _ _ _ (⟨#[97, 97, 97, 97]⟩ : ByteArray) [.string (⟨#[97, 97, 97, 97]⟩ : ByteArray)] from rfl) (Reps.one (show Kd.M Kd.string _ _ _ (⟨#[32]⟩ : ByteArray) [.string (⟨#[32]⟩ : ByteArray)] from rfl) (Reps.one (show Kd.M Kd.string _ _ _ (⟨#[65]⟩ : ByteArray) [.string (⟨#[65]⟩ : ByteArray)] from rfl) (Reps.none _ _)))))); intro v305 w16 ho17 hb hg_ hnew_; clear hg_ hnew_; (first | rw [← Ny304.out] at ho17 | (simp only [Int.reduceToNat] at ho17; rw [← Ny304.out] at ho17)); have HO306 := am (Kd.R_lower ho17 (keep_size (zh HK))); replace HI0 := am (IsS93.below (zi HI0) hb); replace HK := am (KeepBut.trans (zh HK) (KeepBut.of_below hb g none) (.inl rfl)); replace HB := am (below_step (zb HB) hb); clear hb ho17; obtain ⟨Ao18, co18, eo18⟩ := Kd.R_slice HO306.out; subst eo18) | ((with_reducible refine gate_callee (f := 52) rfl ?_); refine gl Try.func52 22 #[.pointer (some ⟨g, 0, none⟩), .slice Ao18 y304.length co18] rfl rfl rfl ?_; (with_reducible refine (spec_l6Rd_of.calls k1 g s0_0 t303 _ _ y304 t307 t308 w0 _ ?side1 ?side2 ?side3 ?side4 ?side5 A13.out).mono ?_); (case side1 => exact zi HI0); (case side2 => exact zb HB); (case side3 => exact zc (Kd.R_reads' HO306.out).2.2); (case side4 => exact (Kd.R_reads' HO306.out).2.1); (case side5 => exact far_slice (IsS93.own_ne HI0.out HO306.out (by decide))); rintro e w19 ⟨rfl, hi, hb, hk⟩; refine ⟨_, rfl, ?_⟩; replace HO306 := am (Kd.R_mono (Kd.R_keep (IsS93.apart (zi HI0) (zr HO306) (by decide)) hk (fun _ h => h.2)) (fun _ h => h.1)); replace HK := am (KeepBut.trans (zh HK) hk (.inl rfl)); replace HB := am (hb); replace HI0 := am (hi); (try clear hb); (try clear hb2); (try clear hk); (try clear hi)))
   go_ret
   exact ⟨zv, (zi HI0), (zb HB), (zh HK)⟩
/-! ### spec_l71Op: function 87 -/
mutual
def spec_l71Op.j1 : Nat → List Int → Int → Int → ByteArray → ByteArray → Int → ByteArray → Option (Int × ByteArray × ByteArray × Int × ByteArray × Int)
 | 0, _, _, _, _, _, _, _ => none
 | k + 1, x1000, x1001, x320000, x320001, x320002, x320003, x320004 => (spec_l6Rd_pick.f k x1000 x1001 30).bind fun bt329 => (if bt329.1 = 0 then ((spec_l6Rd_of.f k x1000 bt329.2 (([(⟨#[]⟩ : ByteArray), (⟨#[69]⟩ : ByteArray), (⟨#[65, 65]⟩ : ByteArray)] : List ByteArray))).bind fun bt334 => (some (x320000, bt334.1, x320002, x320003, x320004, bt334.2))) else (if bt329.1 = 1 then ((spec_l6Rd_pick.f k x1000 bt329.2 9).bind fun bt336 => (some (x320000, x320001, x320002, wrap64 (bt336.1 - 1), x320004, bt336.2))) else (if bt329.1 = 2 then ((spec_l6Rd_pick.f k x1000 bt329.2 6).bind fun bt338 => (some (bt338.1, x320001, x320002, x320003, x320004, bt338.2))) else (some (x320000, x320001, x320002, x320003, x320004, bt329.2)))))
def spec_l71Op.j0 : Nat → Int → Bool → List Int → Int → Int → ByteArray → ByteArray → Int → ByteArray → Option (Int × ByteArray × ByteArray × Int × ByteArray × Int)
 | 0, _, _, _, _, _, _, _, _, _ => none
 | k + 1, x13, x14, x1000, x1001, x320000, x320001, x320002, x320003, x320004 => if x14 = true then ((spec_l6Rd_pick.f k x1000 x1001 6).bind fun bt322 => (spec_l71Op.j1 k x1000 bt322.2 1 x320001 (⟨#[]⟩ : ByteArray) (wrap64 (1 + bt322.1)) (⟨#[]⟩ : ByteArray))) else (if x13 = 2 then ((spec_l6Rd_of.f k x1000 x1001 (([(⟨#[65]⟩ : ByteArray), (⟨#[66]⟩ : ByteArray), (⟨#[67]⟩ : ByteArray), (⟨#[68]⟩ : ByteArray)] : List ByteArray))).bind fun bt327 => (spec_l71Op.j1 k x1000 bt327.2 3 x320001 bt327.1 0 (⟨#[]⟩ : ByteArray))) else (if x13 = 3 then (spec_l71Op.j1 k x1000 x1001 4 x320001 (⟨#[]⟩ : ByteArray) 0 (⟨#[]⟩ : ByteArray)) else (spec_l71Op.j1 k x1000 x1001 x320000 x320001 x320002 x320003 x320004)))
end
def spec_l71Op.f (k : Nat) (s0_0 : List Int) (s0_1 : Int) : Option (Int × ByteArray × ByteArray × Int × ByteArray × Int) := (spec_l6Rd_of.f k s0_0 s0_1 (([(⟨#[65]⟩ : ByteArray), (⟨#[66]⟩ : ByteArray), (⟨#[67]⟩ : ByteArray), (⟨#[68]⟩ : ByteArray)] : List ByteArray))).bind fun bt313 => ((spec_l6Rd_pick.f k s0_0 bt313.2 3).bind fun bt315 => ((spec_l71Text.f k s0_0 bt315.2).bind fun bt317 => ((spec_l6Rd_pick.f k s0_0 bt317.2 12).bind fun bt320 => (if bt320.1 = 0 then (spec_l71Op.j0 k bt320.1 (bt320.1 == 0) s0_0 bt320.2 2 bt313.1 (⟨#[]⟩ : ByteArray) bt315.1 bt317.1) else (spec_l71Op.j0 k bt320.1 (bt320.1 == 1) s0_0 bt320.2 2 bt313.1 (⟨#[]⟩ : ByteArray) bt315.1 bt317.1)))))
theorem spec_l71Op.mono_l : ∀ k, (∀ y0 y1 y2 y3 y4 y5 y6, LeO (spec_l71Op.j1 k y0 y1 y2 y3 y4 y5 y6) (spec_l71Op.j1 (k + 1) y0 y1 y2 y3 y4 y5 y6)) ∧ (∀ y0 y1 y2 y3 y4 y5 y6 y7 y8, LeO (spec_l71Op.j0 k y0 y1 y2 y3 y4 y5 y6 y7 y8) (spec_l71Op.j0 (k + 1) y0 y1 y2 y3 y4 y5 y6 y7 y8))
 | 0 => ⟨fun _ _ _ _ _ _ _ r h => by simp [spec_l71Op.j1] at h, fun _ _ _ _ _ _ _ _ _ r h => by simp [spec_l71Op.j0] at h⟩
 | k + 1 => by
  obtain ⟨ih0, ih1⟩ := spec_l71Op.mono_l k
  refine ⟨?_, ?_⟩
  · intro y0 y1 y2 y3 y4 y5 y6
    unfold spec_l71Op.j1
    exact mo5 ih0 ih1 @spec_l6Rd_of.mono @spec_l6Rd_pick.mono @spec_l71Text.mono
  intro y0 y1 y2 y3 y4 y5 y6 y7 y8
  unfold spec_l71Op.j0
  exact mo5 ih0 ih1 @spec_l6Rd_of.mono @spec_l6Rd_pick.mono @spec_l71Text.mono
theorem spec_l71Op.mono : ∀ a0 a1 k, LeO (spec_l71Op.f k a0 a1) (spec_l71Op.f (k + 1) a0 a1) := by
 intro a0 a1 k
 obtain ⟨ih0, ih1⟩ := spec_l71Op.mono_l k
 unfold spec_l71Op.f
 exact mo5 ih0 ih1 @spec_l6Rd_of.mono @spec_l6Rd_pick.mono @spec_l71Text.mono
set_option maxHeartbeats 8000000 in
set_option maxRecDepth 100000 in
theorem spec_l71Op.calls (k : Nat) (g : Nat) (s0_0 : List Int) (s0_1 : Int) (r1 : Int) (r2 : ByteArray) (r3 : ByteArray) (r4 : Int) (r5 : ByteArray) (r6 : Int) (w0 w : World) (hI : IsS93 w0 w g s0_0 s0_1) (hB : Below w0.heap.size w0 w) (h : spec_l71Op.f k s0_0 s0_1 = some (r1, r2, r3, r4, r5, r6)) :
 Calls Try.prog 87 #[.pointer (some ⟨g, 0, none⟩)] w fun e w' => e = .returned (.agg #[.int .i64 r1, .string r2, .string r3, .int .i64 r4, .string r5]) ∧ IsS93 w0 w' g s0_0 r6 ∧ Below w0.heap.size w0 w' ∧ KeepBut w w' g none := by
 have hu103 := Try.underlying103
 have HI0 := am hI
 have HK := am (KeepBut.refl w g none)
 have HL := am hB.size
 clear hI
 have HW0 := am hB.size
 have HB := am hB
 clear hB
 have H : ((spec_l6Rd_of.f k s0_0 s0_1 (([(⟨#[65]⟩ : ByteArray), (⟨#[66]⟩ : ByteArray), (⟨#[67]⟩ : ByteArray), (⟨#[68]⟩ : ByteArray)] : List ByteArray))).bind fun bt313 => ((spec_l6Rd_pick.f k s0_0 bt313.2 3).bind fun bt315 => ((spec_l71Text.f k s0_0 bt315.2).bind fun bt317 => ((spec_l6Rd_pick.f k s0_0 bt317.2 12).bind fun bt320 => (if bt320.1 = 0 then (spec_l71Op.j0 k bt320.1 (bt320.1 == 0) s0_0 bt320.2 2 bt313.1 (⟨#[]⟩ : ByteArray) bt315.1 bt317.1) else (spec_l71Op.j0 k bt320.1 (bt320.1 == 1) s0_0 bt320.2 2 bt313.1 (⟨#[]⟩ : ByteArray) bt315.1 bt317.1)))))) = some (r1, r2, r3, r4, r5, r6) := h
 clear h
 obtain ⟨y310, hy310⟩ : ∃ y_ : List ByteArray, y_ = (([(⟨#[65]⟩ : ByteArray), (⟨#[66]⟩ : ByteArray), (⟨#[67]⟩ : ByteArray), (⟨#[68]⟩ : ByteArray)] : List ByteArray)) := ⟨_, rfl⟩
 replace H : ((spec_l6Rd_of.f k s0_0 s0_1 y310).bind fun bt313 => ((spec_l6Rd_pick.f k s0_0 bt313.2 3).bind fun bt315 => ((spec_l71Text.f k s0_0 bt315.2).bind fun bt317 => ((spec_l6Rd_pick.f k s0_0 bt317.2 12).bind fun bt320 => (if bt320.1 = 0 then (spec_l71Op.j0 k bt320.1 (bt320.1 == 0) s0_0 bt320.2 2 bt313.1 (⟨#[]⟩ : ByteArray) bt315.1 bt317.1) else (spec_l71Op.j0 k bt320.1 (bt320.1 == 1) s0_0 bt320.2 2 bt313.1 (⟨#[]⟩ : ByteArray) bt315.1 bt317.1)))))) = some (r1, r2, r3, r4, r5, r6) := hY hy310 H
 have Ny310 := am hy310
 clear hy310
 replace H := obs H
 obtain ⟨⟨t313, t314⟩, A20, H⟩ := H
 replace H : ((spec_l6Rd_pick.f k s0_0 t314 3).bind fun bt315 => ((spec_l71Text.f k s0_0 bt315.2).bind fun bt317 => ((spec_l6Rd_pick.f k s0_0 bt317.2 12).bind fun bt320 => (if bt320.1 = 0 then (spec_l71Op.j0 k bt320.1 (bt320.1 == 0) s0_0 bt320.2 2 t313 (⟨#[]⟩ : ByteArray) bt315.1 bt317.1) else (spec_l71Op.j0 k bt320.1 (bt320.1 == 1) s0_0 bt320.2 2 t313 (⟨#[]⟩ : ByteArray) bt315.1 bt317.1))))) = some (r1, r2, r3, r4, r5, r6) := H
 have A2 := am A20
 clear A20
 replace H := obs H
 obtain ⟨⟨t315, t316⟩, A30, H⟩ := H
 replace H : ((spec_l71Text.f k s0_0 t316).bind fun bt317 => ((spec_l6Rd_pick.f k s0_0 bt317.2 12).bind fun bt320 => (if bt320.1 = 0 then (spec_l71Op.j0 k bt320.1 (bt320.1 == 0) s0_0 bt320.2 2 t313 (⟨#[]⟩ : ByteArray) t315 bt317.1) else (spec_l71Op.j0 k bt320.1 (bt320.1 == 1) s0_0 bt320.2 2 t313 (⟨#[]⟩ : ByteArray) t315 bt317.1)))) = some (r1, r2, r3, r4, r5, r6) := H
 have A3 := am A30
 clear A30
 replace H := obs H
 obtain ⟨⟨t317, t318⟩, A40, H⟩ := H
 replace H : ((spec_l6Rd_pick.f k s0_0 t318 12).bind fun bt320 => (if bt320.1 = 0 then (spec_l71Op.j0 k bt320.1 (bt320.1 == 0) s0_0 bt320.2 2 t313 (⟨#[]⟩ : ByteArray) t315 t317) else (spec_l71Op.j0 k bt320.1 (bt320.1 == 1) s0_0 bt320.2 2 t313 (⟨#[]⟩ : ByteArray) t315 t317))) = some (r1, r2, r3, r4, r5, r6) := H
 have A4 := am A40
 clear A40
 replace H := obs H
 obtain ⟨⟨t320, t321⟩, A50, H⟩ := H
 replace H : (if t320 = 0 then (spec_l71Op.j0 k t320 (t320 == 0) s0_0 t321 2 t313 (⟨#[]⟩ : ByteArray) t315 t317) else (spec_l71Op.j0 k t320 (t320 == 1) s0_0 t321 2 t313 (⟨#[]⟩ : ByteArray) t315 t317)) = some (r1, r2, r3, r4, r5, r6) := H
 have A5 := am A50
 clear A50
 have HC6 := am H
 clear H
 go_enter Try.func87, Try.ntmps87
 go_upto_block 0 with (first | ((with_reducible refine gate_dst (N := 2) rfl ?_); refine bx 103 #[.int .i64 0, .string (⟨#[]⟩ : ByteArray), .string (⟨#[]⟩ : ByteArray), .int .i64 0, .string (⟨#[]⟩ : ByteArray)] ?_; intro gb309 hg w7 hbox hb; replace HB := am (below_step (zb HB) hb); have BK309 := am (hbox); have GW309 := am (zm hg (zh HK)); have GE309 := am ((Nat.le_trans HW0.out (zm hg (zh HK)))); replace HK := am (KeepBut.trans (zh HK) (KeepBut.of_below hb g none) (.inl rfl)); have NB0_309 := am (ix hg (zi HI0)); have NB309_0 := am (iy hg (zi HI0)); replace HI0 := am (IsS93.below (zi HI0) hb); clear hb hbox hg) | ((with_reducible refine gate_dst (N := 5) rfl ?_); refine Kd.R_lit Kd.string _ 9 ?hg (N := 5) ?hd (xs := ([(⟨#[65]⟩ : ByteArray), (⟨#[66]⟩ : ByteArray), (⟨#[67]⟩ : ByteArray), (⟨#[68]⟩ : ByteArray)] : List ByteArray)) (inner := [.string (⟨#[65]⟩ : ByteArray), .string (⟨#[66]⟩ : ByteArray), .string (⟨#[67]⟩ : ByteArray), .string (⟨#[68]⟩ : ByteArray)]) (ok := fun _ => True) (okp := fun _ => True) ?hr ?hp (fun _ hk => hk) trivial (Below.refl _ _) (Nat.le_refl _) (by simp) ?_; (case hd => rfl); (case hg => rfl); (case hr => first | (go_simp; done) | (go_simp; rfl)); (case hp => exact (Reps.one (show Kd.M Kd.string _ _ _ (⟨#[65]⟩ : ByteArray) [.string (⟨#[65]⟩ : ByteArray)] from rfl) (Reps.one (show Kd.M Kd.string _ _ _ (⟨#[66]⟩ : ByteArray) [.string (⟨#[66]⟩ : ByteArray)] from rfl) (Reps.one (show Kd.M Kd.string _ _ _ (⟨#[67]⟩ : ByteArray) [.string (⟨#[67]⟩ : ByteArray)] from rfl) (Reps.one (show Kd.M Kd.string _ _ _ (⟨#[68]⟩ : ByteArray) [.string (⟨#[68]⟩ : ByteArray)] from rfl) (Reps.none _ _)))))); intro v311 w8 ho9 hb hg_ hnew_; clear hg_ hnew_; (first | rw [← Ny310.out] at ho9 | (simp only [Int.reduceToNat] at ho9; rw [← Ny310.out] at ho9)); have HO312 := am (Kd.R_lower ho9 (keep_size (zh HK))); replace HI0 := am (IsS93.below (zi HI0) hb); replace BK309 := am (blk_below (zk BK309) hb); replace HK := am (KeepBut.trans (zh HK) (KeepBut.of_below hb g none) (.inl rfl)); replace HB := am (below_step (zb HB) hb); clear hb ho9; obtain ⟨Ao10, co10, eo10⟩ := Kd.R_slice HO312.out; subst eo10) | ((with_reducible refine gate_callee (f := 52) rfl ?_); refine gl Try.func52 6 #[.pointer (some ⟨g, 0, none⟩), .slice Ao10 y310.length co10] rfl rfl rfl ?_; (with_reducible refine (spec_l6Rd_of.calls k g s0_0 s0_1 _ _ y310 t313 t314 w0 _ ?side1 ?side2 ?side3 ?side4 ?side5 A2.out).mono ?_); (case side1 => exact zi HI0); (case side2 => exact zb HB); (case side3 => exact zc (Kd.R_reads' HO312.out).2.2); (case side4 => exact (Kd.R_reads' HO312.out).2.1); (case side5 => exact far_slice (IsS93.own_ne HI0.out HO312.out (by decide))); rintro e w11 ⟨rfl, hi, hb, hk⟩; refine ⟨_, rfl, ?_⟩; replace BK309 := am (KeepBut.blk hk (zk BK309) NB309_0.out (by simp)); replace HO312 := am (Kd.R_mono (Kd.R_keep (IsS93.apart (zi HI0) (zr HO312) (by decide)) hk (fun _ h => h.2)) (fun _ h => h.1)); replace HK := am (KeepBut.trans (zh HK) hk (.inl rfl)); replace HB := am (hb); replace HI0 := am (hi); (try clear hb); (try clear hb2); (try clear hk); (try clear hi)) | ((with_reducible refine gate_callee (f := 51) rfl ?_); refine gl Try.func51 8 #[.pointer (some ⟨g, 0, none⟩), .int .i64 3] rfl rfl rfl ?_; (with_reducible refine (spec_l6Rd_pick.calls k g s0_0 t314 3 t315 t316 w0 _ ?side1 ?side2 A3.out).mono ?_); (case side1 => exact zi HI0); (case side2 => exact zb HB); rintro e w12 ⟨rfl, hi, hb, hk⟩; refine ⟨_, rfl, ?_⟩; replace BK309 := am (KeepBut.blk hk (zk BK309) NB309_0.out (by simp)); replace HO312 := am (Kd.R_mono (Kd.R_keep (IsS93.apart (zi HI0) (zr HO312) (by decide)) hk (fun _ h => h.2)) (fun _ h => h.1)); replace HK := am (KeepBut.trans (zh HK) hk (.inl rfl)); replace HB := am (hb); replace HI0 := am (hi); (try clear hb); (try clear hb2); (try clear hk); (try clear hi)) | ((with_reducible refine gate_callee (f := 94) rfl ?_); refine gl Try.func94 10 #[.pointer (some ⟨g, 0, none⟩)] rfl rfl rfl ?_; (with_reducible refine (spec_l71Text.calls k g s0_0 t316 t317 t318 w0 _ ?side1 ?side2 A4.out).mono ?_); (case side1 => exact zi HI0); (case side2 => exact zb HB); rintro e w13 ⟨rfl, hi, hb, hk⟩; refine ⟨_, rfl, ?_⟩; replace BK309 := am (KeepBut.blk hk (zk BK309) NB309_0.out (by simp)); replace HO312 := am (Kd.R_mono (Kd.R_keep (IsS93.apart (zi HI0) (zr HO312) (by decide)) hk (fun _ h => h.2)) (fun _ h => h.1)); replace HK := am (KeepBut.trans (zh HK) hk (.inl rfl)); replace HB := am (hb); replace HI0 := am (hi); (try clear hb); (try clear hb2); (try clear hk); (try clear hi)) | ((with_reducible refine gate_dst (N := 3) rfl ?_); refine bx 103 #[.int .i64 0, .string (⟨#[]⟩ : ByteArray), .string (⟨#[]⟩ : ByteArray), .int .i64 0, .string (⟨#[]⟩ : ByteArray)] ?_; intro gb319 hg w14 hbox hb; replace HO312 := am (Kd.R_below (zr HO312) hb); replace HB := am (below_step (zb HB) hb); have BK319 := am (hbox); have GW319 := am (zm hg (zh HK)); have GE319 := am ((Nat.le_trans HW0.out (zm hg (zh HK)))); replace HK := am (KeepBut.trans (zh HK) (KeepBut.of_below hb g none) (.inl rfl)); have NB309_319 := am (zx hg (zk BK309)); have NB319_309 := am (zy hg (zk BK309)); replace BK309 := am (blk_below (zk BK309) hb); have NB0_319 := am (ix hg (zi HI0)); have NB319_0 := am (iy hg (zi HI0)); replace HI0 := am (IsS93.below (zi HI0) hb); clear hb hbox hg; have hnb15 := NB319_309.out; have hnc15 := NB309_319.out; have hnb16 := NB319_0.out; have hnc16 := NB0_319.out; have hcz17_0 := ce0 BK319; have hcz17_1 := ce1 BK319; have hcz17_2 := ce2 BK319; have hcz17_3 := ce3 BK319; have hcz17_4 := ce4 BK319; have hfz17_0 := bfz BK319 0; have hfz17_1 := bfz BK319 1; have hfz17_2 := bfz BK319 2; have hfz17_3 := bfz BK319 3; have hfz17_4 := bfz BK319 4) | ((with_reducible refine gate_callee (f := 51) rfl ?_); refine gl Try.func51 13 #[.pointer (some ⟨g, 0, none⟩), .int .i64 12] rfl rfl rfl ?_; (with_reducible refine (spec_l6Rd_pick.calls k g s0_0 t318 12 t320 t321 w0 _ ?side1 ?side2 A5.out).mono ?_); (case side1 => exact zi HI0); (case side2 => exact zb HB); rintro e w18 ⟨rfl, hi, hb, hk⟩; refine ⟨_, rfl, ?_⟩; replace BK309 := am (KeepBut.blk hk (zk BK309) NB309_0.out (by simp)); replace HO312 := am (Kd.R_mono (Kd.R_keep (IsS93.apart (zi HI0) (by (with_reducible repeat (first | apply Kd.R_alloc | apply Kd.R_drewN | apply Kd.R_drew)); exact (Kd.R_mono (Kd.R_far (p := ⟨gb319, 4, none⟩) (Kd.R_far (p := ⟨gb319, 3, none⟩) (Kd.R_far (p := ⟨gb319, 2, none⟩) (Kd.R_far (p := ⟨gb319, 1, none⟩) (Kd.R_far (p := ⟨gb319, 0, none⟩) (Kd.R_types HO312.out BK319.out (by decide)) (fun _ hk => hk.2) (.int .i64 2)) (fun _ hk => hk.2) (.string t313)) (fun _ hk => hk.2) (.string (⟨#[]⟩ : ByteArray))) (fun _ hk => hk.2) (.int .i64 t315)) (fun _ hk => hk.2) (.string t317)) (fun _ h_ => h_.1))) (by decide)) hk (fun _ h => h.2)) (fun _ h => h.1)); replace BK319 := am (KeepBut.blk hk (g' := gb319) (o := .cells #[.int .i64 2, .string t313, .string (⟨#[]⟩ : ByteArray), .int .i64 t315, .string t317] 103 (0, 0)) (zp BK319) NB319_0.out (by simp)); replace HK := am (KeepBut.trans (zh HK) hk (.inl rfl)); replace HB := am (hb); replace HI0 := am (hi); (try clear hb); (try clear hb2); (try clear hk); (try clear hi)))
 (try simp only [Act.put, List.setIfInBounds_toArray, List.set_cons_zero, List.set_cons_succ])
 go_cut [] (fun wc => ∃ (kq : Nat) (x1001_5 : Int) (x320000_5 : Int) (x320001_5 : ByteArray) (x320002_5 : ByteArray) (x320003_5 : Int) (x320004_5 : ByteArray), Aside0 (spec_l71Op.j1 kq s0_0 x1001_5 x320000_5 x320001_5 x320002_5 x320003_5 x320004_5 = some (r1, r2, r3, r4, r5, r6)) ∧ Aside0 (kq ≤ k) ∧ Aside0 (wc.heap[gb309]? = some (.cells #[.int .i64 0, .string (⟨#[]⟩ : ByteArray), .string (⟨#[]⟩ : ByteArray), .int .i64 0, .string (⟨#[]⟩ : ByteArray)] 103 (0, 0))) ∧ Aside0 (wc.heap[gb319]? = some (.cells #[.int .i64 x320000_5, .string x320001_5, .string x320002_5, .int .i64 x320003_5, .string x320004_5] 103 (0, 0))) ∧ Aside0 (IsS93 w0 wc g s0_0 x1001_5) ∧ Aside0 (KeepBut w wc g none) ∧ Aside0 (Below w0.heap.size w0 wc))
 case first =>
  have H := HC6.out
  clear HC6
  have HC19 := am H
  clear H
  go_upto_if 14 with (fail)
  go_cut [14] (fun v14 wc => ∃ (kq : Nat) (x14_18 : Bool), v14 = .bool x14_18 ∧ Aside0 (spec_l71Op.j0 kq t320 x14_18 s0_0 t321 2 t313 (⟨#[]⟩ : ByteArray) t315 t317 = some (r1, r2, r3, r4, r5, r6)) ∧ Aside0 (kq ≤ k) ∧ Aside0 (wc.heap[gb309]? = some (.cells #[.int .i64 0, .string (⟨#[]⟩ : ByteArray), .string (⟨#[]⟩ : ByteArray), .int .i64 0, .string (⟨#[]⟩ : ByteArray)] 103 (0, 0))) ∧ Aside0 (wc.heap[gb319]? = some (.cells #[.int .i64 2, .string t313, .string (⟨#[]⟩ : ByteArray), .int .i64 t315, .string t317] 103 (0, 0))) ∧ Aside0 (IsS93 w0 wc g s0_0 t321) ∧ Aside0 (KeepBut w wc g none) ∧ Aside0 (Below w0.heap.size w0 wc))
  case first =>
   have H := HC19.out
   clear HC19
   by_cases c20 : t320 = 0
   · rw [if_pos c20] at H
     have c20b0 : (t320 == 0) = true := beq_iff_eq.mpr c20
     have c20b1 : (t320 != 0) = false := bne_eq_false_iff_eq.mpr c20
     clear c20
     (first | rw [c20b0] | (simp only [i64_w, i32_w]; rw [c20b0]) | skip)
     have H' := am H
     clear H
     go_wp2
     go_meet
     case rel => exact ⟨_, ((t320 == 0)), ze, H', ⟨by first | omega | exact Nat.le_refl _⟩, ⟨zk BK309⟩, ⟨zk BK319⟩, ⟨zi HI0⟩, ⟨zh HK⟩, ⟨zb HB⟩⟩
   rw [if_neg c20] at H
   have c20b0 : (t320 == 0) = false := beq_eq_false_iff_ne.mpr c20
   have c20b1 : (t320 != 0) = true := bne_iff_ne.mpr c20
   (first | rw [c20b0] | (simp only [i64_w, i32_w]; rw [c20b0]) | skip)
   have H' := am H
   clear H
   go_wp2
   go_meet
   case rel => exact ⟨_, ((t320 == 1)), ze, H', ⟨by first | omega | exact Nat.le_refl _⟩, ⟨zk BK309⟩, ⟨zk BK319⟩, ⟨zi HI0⟩, ⟨zh HK⟩, ⟨zb HB⟩⟩
  clear HC19
  try clear c1
  try clear c2
  try clear p2
  try clear c5
  try clear c8
  try clear c9
  try clear c15
  try clear c16
  try clear c20
  try clear c20b0
  try clear c20b1
  try clear hcz17_0
  try clear hcz17_1
  try clear hcz17_2
  try clear hcz17_3
  try clear hcz17_4
  try clear hfz17_0
  try clear hfz17_1
  try clear hfz17_2
  try clear hfz17_3
  try clear hfz17_4
  obtain ⟨kq, x14_18, rfl, HA, HJ18, BK309, BK319, HI0, HK, HB⟩ := hcut
  cases kq with
  | zero => exact absurd HA.out (by simp [spec_l71Op.j0])
  | succ kj18 =>
   have H := HA.out
   clear HA
   simp only [spec_l71Op.j0] at H
   by_cases c21 : x14_18 = true
   · subst c21
     have H1 : ((spec_l6Rd_pick.f kj18 s0_0 t321 6).bind fun bt322 => (spec_l71Op.j1 kj18 s0_0 bt322.2 1 t313 (⟨#[]⟩ : ByteArray) (wrap64 (1 + bt322.1)) (⟨#[]⟩ : ByteArray))) = some (r1, r2, r3, r4, r5, r6) := by rw [if_pos rfl] at H; exact H
     clear H
     have H := H1
     clear H1
     replace H := obs H
     obtain ⟨⟨t322, t323⟩, A220, H⟩ := H
     replace H : (spec_l71Op.j1 kj18 s0_0 t323 1 t313 (⟨#[]⟩ : ByteArray) (wrap64 (1 + t322)) (⟨#[]⟩ : ByteArray)) = some (r1, r2, r3, r4, r5, r6) := H
     have A22 := am A220
     clear A220
     have H' := am H
     clear H
     try go_wp2
     replace BK309 := am (blk_drew BK309.out)
     replace BK319 := am (blk_drew BK319.out)
     replace HI0 := am (IsS93.drew HI0.out)
     replace HK := am (keep_drew HK.out)
     replace HB := am (below_drew1 HB.out)
     refine start_ (n := 7) (S := fun w' => w'.cell? ⟨gb319, 0, none⟩ = some (.int .i64 2) ∧ w'.cell? ⟨gb319, 1, none⟩ = some (.string t313) ∧ w'.cell? ⟨gb319, 2, none⟩ = some (.string (⟨#[]⟩ : ByteArray)) ∧ w'.cell? ⟨gb319, 3, none⟩ = some (.int .i64 t315) ∧ w'.cell? ⟨gb319, 4, none⟩ = some (.string t317)) (ds := [6]) (bs 7 0) (by kernel_rfl) rfl rfl ⟨ce0 BK319, ce1 BK319, ce2 BK319, ce3 BK319, ce4 BK319⟩ (fun hHeld => ?_)
     generalize wc.drew = w23 at BK309 BK319 HI0 HK HB hHeld ⊢
     refine pu 0 17 7 1 rfl rfl ?_
     refine pu 2 19 7 5 rfl rfl ?_
     refine ta5 1 18 7 7 rfl rfl hHeld ?_
     refine oz 3 7 15 rfl rfl (fun K hK => ?_)
     refine gs Try.func51 #[.pointer (some ⟨g, 0, none⟩), .int .i64 6] rfl rfl ?_
     with_reducible refine (spec_l6Rd_pick.calls kj18 g s0_0 t321 6 t322 t323 w0 _ ?side1 ?side2 A22.out).mono ?_
     (case side1 => exact zi HI0)
     (case side2 => exact zb HB)
     rintro e w24 ⟨rfl, hi, hb, hk⟩
     refine ⟨_, rfl, ?_⟩
     replace BK309 := am (KeepBut.blk hk (zk BK309) NB309_0.out (by simp))
     replace BK319 := am (KeepBut.blk hk (zk BK319) NB319_0.out (by simp))
     replace HK := am (KeepBut.trans (zh HK) hk (.inl rfl))
     replace HB := am (hb)
     replace HI0 := am (hi)
     (try clear hb)
     (try clear hb2)
     (try clear hk)
     (try clear hi)
     refine hK.out _ _ ⟨ce0 BK319, ce1 BK319, ce2 BK319, ce3 BK319, ce4 BK319⟩ (fun hHeld => ?_)
     clear hK K
     refine norm_ (a' := ?_) ?_ ?_
     rotate_left
     · show Act.put _ (some 20) _ = _
       simp only [Act.put, List.setIfInBounds_toArray, List.set_cons_zero, List.set_cons_succ, i64_w, i32_w]
       rfl
     refine pu 4 21 7 31 rfl rfl ?_
     refine pu 5 22 7 63 rfl rfl ?_
     refine la 6 7 127 rfl rfl (fun K hK => ?_)
     have hs25 := ce0 BK319
     have hfs25 := bfz BK319 0
     have hns25_0 := NB309_319.out
     have hms25_0 := NB319_309.out
     have hs26 := ce1 BK319
     have hfs26 := bfz BK319 1
     have hns26_0 := NB309_319.out
     have hms26_0 := NB319_309.out
     have hs27 := ce2 BK319
     have hfs27 := bfz BK319 2
     have hns27_0 := NB309_319.out
     have hms27_0 := NB319_309.out
     have hs28 := ce3 BK319
     have hfs28 := bfz BK319 3
     have hns28_0 := NB309_319.out
     have hms28_0 := NB319_309.out
     have hs29 := ce4 BK319
     have hfs29 := bfz BK319 4
     have hns29_0 := NB309_319.out
     have hms29_0 := NB319_309.out
     refine skip_ (w1 := ?_) (by rfl) rfl ?_ ?_
     rotate_left
     · go_simp
       rfl
     refine hK.out _ _ ?_
     clear hK K
     refine done_ (by kernel_rfl) ?_
     try go_wp2
     go_meet
     case rel => exact ⟨_, (t323), (1), (t313), ((⟨#[]⟩ : ByteArray)), (wrap64 (1 + t322)), ((⟨#[]⟩ : ByteArray)), H', ⟨by have := HJ18.out; first | omega | exact Nat.le_refl _⟩, ⟨zk BK309⟩, ⟨zp BK319⟩, ⟨zi HI0⟩, ⟨zh HK⟩, ⟨zb HB⟩⟩
   replace c21 := Bool.eq_false_iff.mpr c21
   subst c21
   have H1 : (if t320 = 2 then ((spec_l6Rd_of.f kj18 s0_0 t321 (([(⟨#[65]⟩ : ByteArray), (⟨#[66]⟩ : ByteArray), (⟨#[67]⟩ : ByteArray), (⟨#[68]⟩ : ByteArray)] : List ByteArray))).bind fun bt327 => (spec_l71Op.j1 kj18 s0_0 bt327.2 3 t313 bt327.1 0 (⟨#[]⟩ : ByteArray))) else (if t320 = 3 then (spec_l71Op.j1 kj18 s0_0 t321 4 t313 (⟨#[]⟩ : ByteArray) 0 (⟨#[]⟩ : ByteArray)) else (spec_l71Op.j1 kj18 s0_0 t321 2 t313 (⟨#[]⟩ : ByteArray) t315 t317))) = some (r1, r2, r3, r4, r5, r6) := by rw [if_neg (show ¬ (false = true) by decide)] at H; exact H
   clear H
   have H := H1
   clear H1
   by_cases c30 : t320 = 2
   rotate_left
   · rw [if_neg c30] at H
     have c30b0 : (t320 == 2) = false := beq_eq_false_iff_ne.mpr c30
     have c30b1 : (t320 != 2) = true := bne_iff_ne.mpr c30
     by_cases c42 : t320 = 3
     rotate_left
     · rw [if_neg c42] at H
       have c42b0 : (t320 == 3) = false := beq_eq_false_iff_ne.mpr c42
       have c42b1 : (t320 != 3) = true := bne_iff_ne.mpr c42
       have H' := am H
       clear H
       go_wp2
       go_meet
       case rel => exact ⟨_, (t321), (2), (t313), ((⟨#[]⟩ : ByteArray)), (t315), (t317), H', ⟨by have := HJ18.out; first | omega | exact Nat.le_refl _⟩, ⟨zk BK309⟩, ⟨zk BK319⟩, ⟨zi HI0⟩, ⟨zh HK⟩, ⟨zb HB⟩⟩
     rw [if_pos c42] at H
     have c42b0 : (t320 == 3) = true := beq_iff_eq.mpr c42
     have c42b1 : (t320 != 3) = false := bne_eq_false_iff_eq.mpr c42
     clear c42
     have H' := am H
     clear H
     have hnb43 := NB319_309.out
     have hnc43 := NB309_319.out
     have hnb44 := NB319_0.out
     have hnc44 := NB0_319.out
     have hcz45_0 := ce0 BK319
     have hcz45_1 := ce1 BK319
     have hcz45_2 := ce2 BK319
     have hcz45_3 := ce3 BK319
     have hcz45_4 := ce4 BK319
     have hfz45_0 := bfz BK319 0
     have hfz45_1 := bfz BK319 1
     have hfz45_2 := bfz BK319 2
     have hfz45_3 := bfz BK319 3
     have hfz45_4 := bfz BK319 4
     go_wp2
     go_meet
     case rel => exact ⟨_, (t321), (4), (t313), ((⟨#[]⟩ : ByteArray)), (0), ((⟨#[]⟩ : ByteArray)), H', ⟨by have := HJ18.out; first | omega | exact Nat.le_refl _⟩, ⟨zk BK309⟩, ⟨zp BK319⟩, ⟨zi HI0⟩, ⟨zh HK⟩, ⟨zb HB⟩⟩
   rw [if_pos c30] at H
   have c30b0 : (t320 == 2) = true := beq_iff_eq.mpr c30
   have c30b1 : (t320 != 2) = false := bne_eq_false_iff_eq.mpr c30
   clear c30
   obtain ⟨y324, hy324⟩ : ∃ y_ : List ByteArray, y_ = (([(⟨#[65]⟩ : ByteArray), (⟨#[66]⟩ : ByteArray), (⟨#[67]⟩ : ByteArray), (⟨#[68]⟩ : ByteArray)] : List ByteArray)) := ⟨_, rfl⟩
   replace H : ((spec_l6Rd_of.f kj18 s0_0 t321 y324).bind fun bt327 => (spec_l71Op.j1 kj18 s0_0 bt327.2 3 t313 bt327.1 0 (⟨#[]⟩ : ByteArray))) = some (r1, r2, r3, r4, r5, r6) := hY hy324 H
   have Ny324 := am hy324
   clear hy324
   replace H := obs H
   obtain ⟨⟨t327, t328⟩, A310, H⟩ := H
   replace H : (spec_l71Op.j1 kj18 s0_0 t328 3 t313 t327 0 (⟨#[]⟩ : ByteArray)) = some (r1, r2, r3, r4, r5, r6) := H
   have A31 := am A310
   clear A310
   have H' := am H
   clear H
   try go_wp2
   replace BK309 := am (blk_drew BK309.out)
   replace BK319 := am (blk_drew BK319.out)
   replace HI0 := am (IsS93.drew HI0.out)
   replace HK := am (keep_drew HK.out)
   replace HB := am (below_drew1 HB.out)
   refine start_ (n := 7) (S := fun w' => w'.cell? ⟨gb319, 0, none⟩ = some (.int .i64 2) ∧ w'.cell? ⟨gb319, 1, none⟩ = some (.string t313) ∧ w'.cell? ⟨gb319, 2, none⟩ = some (.string (⟨#[]⟩ : ByteArray)) ∧ w'.cell? ⟨gb319, 3, none⟩ = some (.int .i64 t315) ∧ w'.cell? ⟨gb319, 4, none⟩ = some (.string t317)) (ds := [6]) (bs 7 0) (by kernel_rfl) rfl rfl ⟨ce0 BK319, ce1 BK319, ce2 BK319, ce3 BK319, ce4 BK319⟩ (fun hHeld => ?_)
   generalize wc.drew = w32 at BK309 BK319 HI0 HK HB hHeld ⊢
   refine pu 0 25 7 1 rfl rfl ?_
   refine pu 2 27 7 5 rfl rfl ?_
   refine ta5 1 26 7 7 rfl rfl hHeld ?_
   refine oz 3 7 15 rfl rfl (fun K hK => ?_)
   refine Kd.R_lit_step Kd.string _ 9 ?hg (N := 28) ?hd (xs := ([(⟨#[65]⟩ : ByteArray), (⟨#[66]⟩ : ByteArray), (⟨#[67]⟩ : ByteArray), (⟨#[68]⟩ : ByteArray)] : List ByteArray)) (inner := [.string (⟨#[65]⟩ : ByteArray), .string (⟨#[66]⟩ : ByteArray), .string (⟨#[67]⟩ : ByteArray), .string (⟨#[68]⟩ : ByteArray)]) (ok := fun _ => True) (okp := fun _ => True) ?hr ?hp (fun _ hk => hk) trivial (Below.refl _ _) (Nat.le_refl _) (by simp) ?_; (case hd => rfl); (case hg => rfl); (case hr => first | (go_simp; done) | (go_simp; rfl)); (case hp => exact (Reps.one (show Kd.M Kd.string _ _ _ (⟨#[65]⟩ : ByteArray) [.string (⟨#[65]⟩ : ByteArray)] from rfl) (Reps.one (show Kd.M Kd.string _ _ _ (⟨#[66]⟩ : ByteArray) [.string (⟨#[66]⟩ : ByteArray)] from rfl) (Reps.one (show Kd.M Kd.string _ _ _ (⟨#[67]⟩ : ByteArray) [.string (⟨#[67]⟩ : ByteArray)] from rfl) (Reps.one (show Kd.M Kd.string _ _ _ (⟨#[68]⟩ : ByteArray) [.string (⟨#[68]⟩ : ByteArray)] from rfl) (Reps.none _ _))))))
   intro v325 w33 ho34 hb hg_ hnew_
   clear hg_ hnew_
   (first | rw [← Ny324.out] at ho34 | (simp only [Int.reduceToNat] at ho34; rw [← Ny324.out] at ho34))
   have HO326 := am (Kd.R_lower ho34 (keep_size (zh HK)))
   replace BK309 := am (blk_below (zk BK309) hb)
   replace BK319 := am (blk_below (zk BK319) hb)
   replace HI0 := am (IsS93.below (zi HI0) hb)
   replace HK := am (KeepBut.trans (zh HK) (KeepBut.of_below hb g none) (.inl rfl))
   replace HB := am (below_step (zb HB) hb)
   clear hb ho34
   obtain ⟨Ao35, co35, eo35⟩ := Kd.R_slice HO326.out
   (first | subst eo35 | (injection eo35 with f1_ f2_ f3_; have f4_ := f1_.symm; have f5_ := f3_.symm; clear f1_ f2_ f3_; subst f4_; subst f5_))
   refine hK.out _ _ ⟨ce0 BK319, ce1 BK319, ce2 BK319, ce3 BK319, ce4 BK319⟩ (fun hHeld => ?_)
   clear hK K
   refine norm_ (a' := ?_) ?_ ?_
   rotate_left
   · show Act.put _ (some 28) _ = _
     simp only [Act.put, List.setIfInBounds_toArray, List.set_cons_zero, List.set_cons_succ, i64_w, i32_w]
     rfl
   refine oz 4 7 31 rfl rfl (fun K hK => ?_)
   refine gs Try.func52 #[.pointer (some ⟨g, 0, none⟩), .slice Ao35 y324.length co35] rfl rfl ?_
   with_reducible refine (spec_l6Rd_of.calls kj18 g s0_0 t321 _ _ y324 t327 t328 w0 _ ?side1 ?side2 ?side3 ?side4 ?side5 A31.out).mono ?_
   (case side1 => exact zi HI0)
   (case side2 => exact zb HB)
   (case side3 => exact zc (Kd.R_reads' HO326.out).2.2)
   (case side4 => exact (Kd.R_reads' HO326.out).2.1)
   (case side5 => exact far_slice (IsS93.own_ne HI0.out HO326.out (by decide)))
   rintro e w36 ⟨rfl, hi, hb, hk⟩
   refine ⟨_, rfl, ?_⟩
   replace BK309 := am (KeepBut.blk hk (zk BK309) NB309_0.out (by simp))
   replace BK319 := am (KeepBut.blk hk (zk BK319) NB319_0.out (by simp))
   replace HO326 := am (Kd.R_mono (Kd.R_keep (IsS93.apart (zi HI0) (zr HO326) (by decide)) hk (fun _ h => h.2)) (fun _ h => h.1))
   replace HK := am (KeepBut.trans (zh HK) hk (.inl rfl))
   replace HB := am (hb)
   replace HI0 := am (hi)
   (try clear hb)
   (try clear hb2)
   (try clear hk)
   (try clear hi)
   refine hK.out _ _ ⟨ce0 BK319, ce1 BK319, ce2 BK319, ce3 BK319, ce4 BK319⟩ (fun hHeld => ?_)
   clear hK K
   refine norm_ (a' := ?_) ?_ ?_
   rotate_left
   · show Act.put _ (some 29) _ = _
     simp only [Act.put, List.setIfInBounds_toArray, List.set_cons_zero, List.set_cons_succ, i64_w, i32_w]
     rfl
   refine pu 5 30 7 63 rfl rfl ?_
   refine la 6 7 127 rfl rfl (fun K hK => ?_)
   have hs37 := ce0 BK319
   have hfs37 := bfz BK319 0
   have hns37_0 := NB309_319.out
   have hms37_0 := NB319_309.out
   have hs38 := ce1 BK319
   have hfs38 := bfz BK319 1
   have hns38_0 := NB309_319.out
   have hms38_0 := NB319_309.out
   have hs39 := ce2 BK319
   have hfs39 := bfz BK319 2
   have hns39_0 := NB309_319.out
   have hms39_0 := NB319_309.out
   have hs40 := ce3 BK319
   have hfs40 := bfz BK319 3
   have hns40_0 := NB309_319.out
   have hms40_0 := NB319_309.out
   have hs41 := ce4 BK319
   have hfs41 := bfz BK319 4
   have hns41_0 := NB309_319.out
   have hms41_0 := NB319_309.out
   refine skip_ (w1 := ?_) (by rfl) rfl ?_ ?_
   rotate_left
   · go_simp
     rfl
   refine hK.out _ _ ?_
   clear hK K
   refine done_ (by kernel_rfl) ?_
   try go_wp2
   go_meet
   case rel => exact ⟨_, (t328), (3), (t313), (t327), (0), ((⟨#[]⟩ : ByteArray)), H', ⟨by have := HJ18.out; first | omega | exact Nat.le_refl _⟩, ⟨zk BK309⟩, ⟨zp BK319⟩, ⟨zi HI0⟩, ⟨zh HK⟩, ⟨zb HB⟩⟩
 clear HC6
 try clear c1
 try clear c2
 try clear p2
 try clear c3
 try clear c4
 try clear c5
 try clear p6
 try clear c8
 try clear c9
 try clear c15
 try clear c16
 try clear c20
 try clear c20b0
 try clear c20b1
 try clear c21
 try clear c30
 try clear c30b0
 try clear c30b1
 try clear c42
 try clear c42b0
 try clear c42b1
 try clear c43
 try clear c44
 try clear hcz17_0
 try clear hcz17_1
 try clear hcz17_2
 try clear hcz17_3
 try clear hcz17_4
 try clear hcz45_0
 try clear hcz45_1
 try clear hcz45_2
 try clear hcz45_3
 try clear hcz45_4
 try clear hfz17_0
 try clear hfz17_1
 try clear hfz17_2
 try clear hfz17_3
 try clear hfz17_4
 try clear hfz45_0
 try clear hfz45_1
 try clear hfz45_2
 try clear hfz45_3
 try clear hfz45_4
 try clear p2
 obtain ⟨kq, x1001_5, x320000_5, x320001_5, x320002_5, x320003_5, x320004_5, HA, HJ5, BK309, BK319, HI0, HK, HB⟩ := hcut
 cases kq with
 | zero => exact absurd HA.out (by simp [spec_l71Op.j1])
 | succ kj5 =>
  have H := HA.out
  clear HA
  simp only [spec_l71Op.j1] at H
  replace H := obs H
  obtain ⟨⟨t329, t330⟩, A460, H⟩ := H
  replace H : (if t329 = 0 then ((spec_l6Rd_of.f kj5 s0_0 t330 (([(⟨#[]⟩ : ByteArray), (⟨#[69]⟩ : ByteArray), (⟨#[65, 65]⟩ : ByteArray)] : List ByteArray))).bind fun bt334 => (some (x320000_5, bt334.1, x320002_5, x320003_5, x320004_5, bt334.2))) else (if t329 = 1 then ((spec_l6Rd_pick.f kj5 s0_0 t330 9).bind fun bt336 => (some (x320000_5, x320001_5, x320002_5, wrap64 (bt336.1 - 1), x320004_5, bt336.2))) else (if t329 = 2 then ((spec_l6Rd_pick.f kj5 s0_0 t330 6).bind fun bt338 => (some (bt338.1, x320001_5, x320002_5, x320003_5, x320004_5, bt338.2))) else (some (x320000_5, x320001_5, x320002_5, x320003_5, x320004_5, t330))))) = some (r1, r2, r3, r4, r5, r6) := H
  have A46 := am A460
  clear A460
  by_cases c47 : t329 = 0
  · rw [if_pos c47] at H
    have c47b0 : (t329 == 0) = true := beq_iff_eq.mpr c47
    have c47b1 : (t329 != 0) = false := bne_eq_false_iff_eq.mpr c47
    clear c47
    obtain ⟨y331, hy331⟩ : ∃ y_ : List ByteArray, y_ = (([(⟨#[]⟩ : ByteArray), (⟨#[69]⟩ : ByteArray), (⟨#[65, 65]⟩ : ByteArray)] : List ByteArray)) := ⟨_, rfl⟩
    replace H : ((spec_l6Rd_of.f kj5 s0_0 t330 y331).bind fun bt334 => (some (x320000_5, bt334.1, x320002_5, x320003_5, x320004_5, bt334.2))) = some (r1, r2, r3, r4, r5, r6) := hY hy331 H
    have Ny331 := am hy331
    clear hy331
    replace H := obs H
    obtain ⟨⟨t334, t335⟩, A480, H⟩ := H
    replace H : (some (x320000_5, t334, x320002_5, x320003_5, x320004_5, t335)) = some (r1, r2, r3, r4, r5, r6) := H
    have A48 := am A480
    clear A480
    simp only [Option.some.injEq, Prod.mk.injEq] at H
    obtain ⟨rfl, rfl, rfl, rfl, rfl, rfl⟩ := H
    go_wp2_with (first | ((with_reducible refine gate_callee (f := 51) rfl ?_); refine gl Try.func51 37 #[.pointer (some ⟨g, 0, none⟩), .int .i64 30] rfl rfl rfl ?_; (with_reducible refine (spec_l6Rd_pick.calls kj5 g s0_0 x1001_5 30 t329 t330 w0 _ ?side1 ?side2 A46.out).mono ?_); (case side1 => exact zi HI0); (case side2 => exact zb HB); rintro e w49 ⟨rfl, hi, hb, hk⟩; refine ⟨_, rfl, ?_⟩; replace BK309 := am (KeepBut.blk hk (zk BK309) NB309_0.out (by simp)); replace BK319 := am (KeepBut.blk hk (zk BK319) NB319_0.out (by simp)); replace HK := am (KeepBut.trans (zh HK) hk (.inl rfl)); replace HB := am (hb); replace HI0 := am (hi); (try clear hb); (try clear hb2); (try clear hk); (try clear hi)) | ((with_reducible refine gate_dst (N := 41) rfl ?_); refine Kd.R_lit Kd.string _ 9 ?hg (N := 41) ?hd (xs := ([(⟨#[]⟩ : ByteArray), (⟨#[69]⟩ : ByteArray), (⟨#[65, 65]⟩ : ByteArray)] : List ByteArray)) (inner := [.string (⟨#[]⟩ : ByteArray), .string (⟨#[69]⟩ : ByteArray), .string (⟨#[65, 65]⟩ : ByteArray)]) (ok := fun _ => True) (okp := fun _ => True) ?hr ?hp (fun _ hk => hk) trivial (Below.refl _ _) (Nat.le_refl _) (by simp) ?_; (case hd => rfl); (case hg => rfl); (case hr => first | (go_simp; done) | (go_simp; rfl)); (case hp => exact (Reps.one (show Kd.M Kd.string _ _ _ (⟨#[]⟩ : ByteArray) [.string (⟨#[]⟩ : ByteArray)] from rfl) (Reps.one (show Kd.M Kd.string _ _ _ (⟨#[69]⟩ : ByteArray) [.string (⟨#[69]⟩ : ByteArray)] from rfl) (Reps.one (show Kd.M Kd.string _ _ _ (⟨#[65, 65]⟩ : ByteArray) [.string (⟨#[65, 65]⟩ : ByteArray)] from rfl) (Reps.none _ _))))); intro v332 w50 ho51 hb hg_ hnew_; clear hg_ hnew_; (first | rw [← Ny331.out] at ho51 | (simp only [Int.reduceToNat] at ho51; rw [← Ny331.out] at ho51)); have HO333 := am (Kd.R_lower ho51 (keep_size (zh HK))); replace BK309 := am (blk_below (zk BK309) hb); replace BK319 := am (blk_below (zk BK319) hb); replace HI0 := am (IsS93.below (zi HI0) hb); replace HK := am (KeepBut.trans (zh HK) (KeepBut.of_below hb g none) (.inl rfl)); replace HB := am (below_step (zb HB) hb); clear hb ho51; obtain ⟨Ao52, co52, eo52⟩ := Kd.R_slice HO333.out; subst eo52) | ((with_reducible refine gate_callee (f := 52) rfl ?_); refine gl Try.func52 42 #[.pointer (some ⟨g, 0, none⟩), .slice Ao52 y331.length co52] rfl rfl rfl ?_; (with_reducible refine (spec_l6Rd_of.calls kj5 g s0_0 t330 _ _ y331 t334 t335 w0 _ ?side1 ?side2 ?side3 ?side4 ?side5 A48.out).mono ?_); (case side1 => exact zi HI0); (case side2 => exact zb HB); (case side3 => exact zc (Kd.R_reads' HO333.out).2.2); (case side4 => exact (Kd.R_reads' HO333.out).2.1); (case side5 => exact far_slice (IsS93.own_ne HI0.out HO333.out (by decide))); rintro e w53 ⟨rfl, hi, hb, hk⟩; refine ⟨_, rfl, ?_⟩; replace BK309 := am (KeepBut.blk hk (zk BK309) NB309_0.out (by simp)); replace BK319 := am (KeepBut.blk hk (zk BK319) NB319_0.out (by simp)); replace HO333 := am (Kd.R_mono (Kd.R_keep (IsS93.apart (zi HI0) (zr HO333) (by decide)) hk (fun _ h => h.2)) (fun _ h => h.1)); replace HK := am (KeepBut.trans (zh HK) hk (.inl rfl)); replace HB := am (hb); replace HI0 := am (hi); (try clear hb); (try clear hb2); (try clear hk); (try clear hi); have hnb54 := NB319_309.out; have hnc54 := NB309_319.out; have hnb55 := NB319_0.out; have hnc55 := NB0_319.out; have hcz56_0 := ce0 BK319; have hcz56_1 := ce1 BK319; have hcz56_2 := ce2 BK319; have hcz56_3 := ce3 BK319; have hcz56_4 := ce4 BK319; have hfz56_0 := bfz BK319 0; have hfz56_1 := bfz BK319 1; have hfz56_2 := bfz BK319 2; have hfz56_3 := bfz BK319 3; have hfz56_4 := bfz BK319 4; have hnb57 := NB309_0.out; have hnc57 := NB0_309.out; have hcz58_0 := ce0 BK309; have hcz58_1 := ce1 BK309; have hcz58_2 := ce2 BK309; have hcz58_3 := ce3 BK309; have hcz58_4 := ce4 BK309; have hfz58_0 := bfz BK309 0; have hfz58_1 := bfz BK309 1; have hfz58_2 := bfz BK309 2; have hfz58_3 := bfz BK309 3; have hfz58_4 := bfz BK309 4))
    refine bodyPost_ret (results_cell_row rfl _ _ gb309 103 #[.int .i64 x320000_5, .string t334, .string x320002_5, .int .i64 x320003_5, .string x320004_5] (0, 0) _ rfl (zp BK309) Try.underlying103 rfl (by kernel_rfl)) rfl ?_
    exact ⟨zv, (zi HI0), (zb HB), (zh HK)⟩
  rw [if_neg c47] at H
  have c47b0 : (t329 == 0) = false := beq_eq_false_iff_ne.mpr c47
  have c47b1 : (t329 != 0) = true := bne_iff_ne.mpr c47
  by_cases c59 : t329 = 1
  · rw [if_pos c59] at H
    have c59b0 : (t329 == 1) = true := beq_iff_eq.mpr c59
    have c59b1 : (t329 != 1) = false := bne_eq_false_iff_eq.mpr c59
    clear c59
    replace H := obs H
    obtain ⟨⟨t336, t337⟩, A600, H⟩ := H
    replace H : (some (x320000_5, x320001_5, x320002_5, wrap64 (t336 - 1), x320004_5, t337)) = some (r1, r2, r3, r4, r5, r6) := H
    have A60 := am A600
    clear A600
    simp only [Option.some.injEq, Prod.mk.injEq] at H
    obtain ⟨rfl, rfl, rfl, rfl, rfl, rfl⟩ := H
    go_wp2_with (first | ((with_reducible refine gate_callee (f := 51) rfl ?_); refine gl Try.func51 37 #[.pointer (some ⟨g, 0, none⟩), .int .i64 30] rfl rfl rfl ?_; (with_reducible refine (spec_l6Rd_pick.calls kj5 g s0_0 x1001_5 30 t329 t330 w0 _ ?side1 ?side2 A46.out).mono ?_); (case side1 => exact zi HI0); (case side2 => exact zb HB); rintro e w61 ⟨rfl, hi, hb, hk⟩; refine ⟨_, rfl, ?_⟩; replace BK309 := am (KeepBut.blk hk (zk BK309) NB309_0.out (by simp)); replace BK319 := am (KeepBut.blk hk (zk BK319) NB319_0.out (by simp)); replace HK := am (KeepBut.trans (zh HK) hk (.inl rfl)); replace HB := am (hb); replace HI0 := am (hi); (try clear hb); (try clear hb2); (try clear hk); (try clear hi)) | ((with_reducible refine gate_callee (f := 51) rfl ?_); refine gl Try.func51 47 #[.pointer (some ⟨g, 0, none⟩), .int .i64 9] rfl rfl rfl ?_; (with_reducible refine (spec_l6Rd_pick.calls kj5 g s0_0 t330 9 t336 t337 w0 _ ?side1 ?side2 A60.out).mono ?_); (case side1 => exact zi HI0); (case side2 => exact zb HB); rintro e w62 ⟨rfl, hi, hb, hk⟩; refine ⟨_, rfl, ?_⟩; replace BK309 := am (KeepBut.blk hk (zk BK309) NB309_0.out (by simp)); replace BK319 := am (KeepBut.blk hk (zk BK319) NB319_0.out (by simp)); replace HK := am (KeepBut.trans (zh HK) hk (.inl rfl)); replace HB := am (hb); replace HI0 := am (hi); (try clear hb); (try clear hb2); (try clear hk); (try clear hi); have hnb63 := NB319_309.out; have hnc63 := NB309_319.out; have hnb64 := NB319_0.out; have hnc64 := NB0_319.out; have hcz65_0 := ce0 BK319; have hcz65_1 := ce1 BK319; have hcz65_2 := ce2 BK319; have hcz65_3 := ce3 BK319; have hcz65_4 := ce4 BK319; have hfz65_0 := bfz BK319 0; have hfz65_1 := bfz BK319 1; have hfz65_2 := bfz BK319 2; have hfz65_3 := bfz BK319 3; have hfz65_4 := bfz BK319 4; have hnb66 := NB309_0.out; have hnc66 := NB0_309.out; have hcz67_0 := ce0 BK309; have hcz67_1 := ce1 BK309; have hcz67_2 := ce2 BK309; have hcz67_3 := ce3 BK309; have hcz67_4 := ce4 BK309; have hfz67_0 := bfz BK309 0; have hfz67_1 := bfz BK309 1; have hfz67_2 := bfz BK309 2; have hfz67_3 := bfz BK309 3; have hfz67_4 := bfz BK309 4))
    refine bodyPost_ret (results_cell_row rfl _ _ gb309 103 #[.int .i64 x320000_5, .string x320001_5, .string x320002_5, .int .i64 (wrap64 (t336 - 1)), .string x320004_5] (0, 0) _ rfl (zp BK309) Try.underlying103 rfl (by kernel_rfl)) rfl ?_
    exact ⟨zv, (zi HI0), (zb HB), (zh HK)⟩
  rw [if_neg c59] at H
  have c59b0 : (t329 == 1) = false := beq_eq_false_iff_ne.mpr c59
  have c59b1 : (t329 != 1) = true := bne_iff_ne.mpr c59
  by_cases c68 : t329 = 2
  rotate_left
  · rw [if_neg c68] at H
    have c68b0 : (t329 == 2) = false := beq_eq_false_iff_ne.mpr c68
    have c68b1 : (t329 != 2) = true := bne_iff_ne.mpr c68
    simp only [Option.some.injEq, Prod.mk.injEq] at H
    obtain ⟨rfl, rfl, rfl, rfl, rfl, rfl⟩ := H
    go_wp2_with (first | ((with_reducible refine gate_callee (f := 51) rfl ?_); refine gl Try.func51 37 #[.pointer (some ⟨g, 0, none⟩), .int .i64 30] rfl rfl rfl ?_; (with_reducible refine (spec_l6Rd_pick.calls kj5 g s0_0 x1001_5 30 t329 t330 w0 _ ?side1 ?side2 A46.out).mono ?_); (case side1 => exact zi HI0); (case side2 => exact zb HB); rintro e w77 ⟨rfl, hi, hb, hk⟩; refine ⟨_, rfl, ?_⟩; replace BK309 := am (KeepBut.blk hk (zk BK309) NB309_0.out (by simp)); replace BK319 := am (KeepBut.blk hk (zk BK319) NB319_0.out (by simp)); replace HK := am (KeepBut.trans (zh HK) hk (.inl rfl)); replace HB := am (hb); replace HI0 := am (hi); (try clear hb); (try clear hb2); (try clear hk); (try clear hi); have hnb78 := NB319_309.out; have hnc78 := NB309_319.out; have hnb79 := NB319_0.out; have hnc79 := NB0_319.out; have hcz80_0 := ce0 BK319; have hcz80_1 := ce1 BK319; have hcz80_2 := ce2 BK319; have hcz80_3 := ce3 BK319; have hcz80_4 := ce4 BK319; have hfz80_0 := bfz BK319 0; have hfz80_1 := bfz BK319 1; have hfz80_2 := bfz BK319 2; have hfz80_3 := bfz BK319 3; have hfz80_4 := bfz BK319 4; have hnb81 := NB309_0.out; have hnc81 := NB0_309.out; have hcz82_0 := ce0 BK309; have hcz82_1 := ce1 BK309; have hcz82_2 := ce2 BK309; have hcz82_3 := ce3 BK309; have hcz82_4 := ce4 BK309; have hfz82_0 := bfz BK309 0; have hfz82_1 := bfz BK309 1; have hfz82_2 := bfz BK309 2; have hfz82_3 := bfz BK309 3; have hfz82_4 := bfz BK309 4))
    refine bodyPost_ret (results_cell_row rfl _ _ gb309 103 #[.int .i64 x320000_5, .string x320001_5, .string x320002_5, .int .i64 x320003_5, .string x320004_5] (0, 0) _ rfl (zp BK309) Try.underlying103 rfl (by kernel_rfl)) rfl ?_
    exact ⟨zv, (zi HI0), (zb HB), (zh HK)⟩
  rw [if_pos c68] at H
  have c68b0 : (t329 == 2) = true := beq_iff_eq.mpr c68
  have c68b1 : (t329 != 2) = false := bne_eq_false_iff_eq.mpr c68
  clear c68
  replace H := obs H
  obtain ⟨⟨t338, t339⟩, A690, H⟩ := H
  replace H : (some (t338, x320001_5, x320002_5, x320003_5, x320004_5, t339)) = some (r1, r2, r3, r4, r5, r6) := H
  have A69 := am A690
  clear A690
  simp only [Option.some.injEq, Prod.mk.injEq] at H
  obtain ⟨rfl, rfl, rfl, rfl, rfl, rfl⟩ := H
  go_wp2_with (first | ((with_reducible refine gate_callee (f := 51) rfl ?_); refine gl Try.func51 37 #[.pointer (some ⟨g, 0, none⟩), .int .i64 30] rfl rfl rfl ?_; (with_reducible refine (spec_l6Rd_pick.calls kj5 g s0_0 x1001_5 30 t329 t330 w0 _ ?side1 ?side2 A46.out).mono ?_); (case side1 => exact zi HI0); (case side2 => exact zb HB); rintro e w70 ⟨rfl, hi, hb, hk⟩; refine ⟨_, rfl, ?_⟩; replace BK309 := am (KeepBut.blk hk (zk BK309) NB309_0.out (by simp)); replace BK319 := am (KeepBut.blk hk (zk BK319) NB319_0.out (by simp)); replace HK := am (KeepBut.trans (zh HK) hk (.inl rfl)); replace HB := am (hb); replace HI0 := am (hi); (try clear hb); (try clear hb2); (try clear hk); (try clear hi)) | ((with_reducible refine gate_callee (f := 51) rfl ?_); refine gl Try.func51 53 #[.pointer (some ⟨g, 0, none⟩), .int .i64 6] rfl rfl rfl ?_; (with_reducible refine (spec_l6Rd_pick.calls kj5 g s0_0 t330 6 t338 t339 w0 _ ?side1 ?side2 A69.out).mono ?_); (case side1 => exact zi HI0); (case side2 => exact zb HB); rintro e w71 ⟨rfl, hi, hb, hk⟩; refine ⟨_, rfl, ?_⟩; replace BK309 := am (KeepBut.blk hk (zk BK309) NB309_0.out (by simp)); replace BK319 := am (KeepBut.blk hk (zk BK319) NB319_0.out (by simp)); replace HK := am (KeepBut.trans (zh HK) hk (.inl rfl)); replace HB := am (hb); replace HI0 := am (hi); (try clear hb); (try clear hb2); (try clear hk); (try clear hi); have hnb72 := NB319_309.out; have hnc72 := NB309_319.out; have hnb73 := NB319_0.out; have hnc73 := NB0_319.out; have hcz74_0 := ce0 BK319; have hcz74_1 := ce1 BK319; have hcz74_2 := ce2 BK319; have hcz74_3 := ce3 BK319; have hcz74_4 := ce4 BK319; have hfz74_0 := bfz BK319 0; have hfz74_1 := bfz BK319 1; have hfz74_2 := bfz BK319 2; have hfz74_3 := bfz BK319 3; have hfz74_4 := bfz BK319 4; have hnb75 := NB309_0.out; have hnc75 := NB0_309.out; have hcz76_0 := ce0 BK309; have hcz76_1 := ce1 BK309; have hcz76_2 := ce2 BK309; have hcz76_3 := ce3 BK309; have hcz76_4 := ce4 BK309; have hfz76_0 := bfz BK309 0; have hfz76_1 := bfz BK309 1; have hfz76_2 := bfz BK309 2; have hfz76_3 := bfz BK309 3; have hfz76_4 := bfz BK309 4))
  refine bodyPost_ret (results_cell_row rfl _ _ gb309 103 #[.int .i64 t338, .string x320001_5, .string x320002_5, .int .i64 x320003_5, .string x320004_5] (0, 0) _ rfl (zp BK309) Try.underlying103 rfl (by kernel_rfl)) rfl ?_
  exact ⟨zv, (zi HI0), (zb HB), (zh HK)⟩
end Go.Proofs.Ytooamacekmjpaaa.PFnVolCount
