/- TextOk of the program answers what TextOk of the reference answers, for every string. -/
import Derived.Test.YtpoleflmmdlgjaaPFnExactTextOkx1
import Derived.Test.YtpoleflmmdlgjaaU
set_option linter.unusedVariables false
set_option linter.unusedSimpArgs false
namespace Go.Proofs.Ytpoleflmmdlgjaa.Pure
open Go.RowKit Go.Proofs.Ytpoleflmmdlgjaa.PFnExactTextOk Go.Proofs.YtpoleflmmdlgjaaW.PrintWords Go.Proofs.YtpoleflmmdlgjaaW.PrintLast Go.Proofs.YtpoleflmmdlgjaaU
/-! ### pieces -/
theorem spec_l6In_eq (a b c : Int) : spec_l6In.f a b c = some (decide (b ≤ a) && decide (a ≤ c)) := by
  unfold spec_l6In.f
  by_cases h : a ≥ b
  · rw [if_pos h]; simp [show b ≤ a from h]
  · rw [if_neg h]; simp [show ¬ b ≤ a from h]
theorem impl_within_eq (a b c : Int) : impl_within.f a b c = some (decide (b ≤ a) && decide (a ≤ c)) := by
  unfold impl_within.f
  by_cases h : a ≥ b
  · rw [if_pos h]; simp [show b ≤ a from h]
  · rw [if_neg h]; simp [show ¬ b ≤ a from h]
theorem spec_TextOk_l0 (s : ByteArray) (hs : s.size ≤ 140737488355328) (d : Nat) : ∀ i : Nat, i + d = s.size → Tot (fun k => spec_TextOk.l0 k s (i : Int)) (fun r => r = (((bytesOf s).drop i).all okc && decide ((s.size : Int) ≤ 4))) := by
  induction d with
  | zero =>
    intro i hi
    refine Tot.shift ?_
    simp only [spec_TextOk.l0]
    refine Tot.neg (by omega) (Tot.now ?_)
    rw [List.drop_of_length_le (by rw [bytesOf_length]; omega)]
    simp
  | succ d ih =>
    intro i hi
    refine Tot.shift ?_
    simp only [spec_TextOk.l0]
    refine Tot.pos (by omega) (Tot.pos (by omega) (Tot.bindN (spec_l6In_eq _ _ _) ?_))
    rw [w64_bt, w64 (x := (i : Int) + 1) (by omega) (by omega), drop_at s i (by omega), List.all_cons]
    have e : okc (bt s i) = (decide (97 ≤ bt s i) && decide (bt s i ≤ 100)) := rfl
    refine Tot.ite (fun h => ?_) (fun h => Tot.now ?_)
    · rw [e, h, Bool.true_and]; exact ih (i + 1) (by omega)
    · rw [e, Bool.eq_false_iff.2 h]; simp
theorem spec_TextOk_tot (s : ByteArray) (hs : s.size ≤ 140737488355328) : Tot (fun k => spec_TextOk.f k s) (fun r => r = textOk s) := by
  unfold spec_TextOk.f
  exact spec_TextOk_l0 s hs s.size 0 (by omega)
theorem impl_TextOk_l0 (s : ByteArray) (hs : s.size ≤ 140737488355328) (d : Nat) : ∀ i : Nat, i + d = s.size → Tot (fun k => impl_TextOk.l0 k s (s.size : Int) (i : Int)) (fun r => r = (((bytesOf s).drop i).all okc && decide ((s.size : Int) ≤ 4))) := by
  induction d with
  | zero =>
    intro i hi
    refine Tot.shift ?_
    simp only [impl_TextOk.l0]
    refine Tot.neg (by omega) (Tot.now ?_)
    rw [List.drop_of_length_le (by rw [bytesOf_length]; omega)]
    simp
  | succ d ih =>
    intro i hi
    refine Tot.shift ?_
    simp only [impl_TextOk.l0]
    refine Tot.pos (by omega) (Tot.pos (by omega) (Tot.pos (by omega) (Tot.bindN (impl_within_eq _ _ _) ?_)))
    rw [w64_bt, w64 (x := (i : Int) + 1) (by omega) (by omega), drop_at s i (by omega), List.all_cons]
    have e : okc (bt s i) = (decide (97 ≤ bt s i) && decide (bt s i ≤ 100)) := rfl
    refine Tot.ite (fun h => ?_) (fun h => Tot.now ?_)
    · rw [e, h, Bool.true_and]; exact ih (i + 1) (by omega)
    · rw [e, Bool.eq_false_iff.2 h]; simp
theorem impl_TextOk_tot (s : ByteArray) (hs : s.size ≤ 140737488355328) : Tot (fun k => impl_TextOk.f k s) (fun r => r = textOk s) := by
  unfold impl_TextOk.f
  exact impl_TextOk_l0 s hs s.size 0 (by omega)
theorem FnExactTextOk : laws_FnExactTextOk.Pure := by
  intro s hs
  refine Tot.rounds ?_
  unfold laws_FnExactTextOk.f
  refine Tot.ite (fun _ => Tot.now rfl) (fun _ => ?_)
  refine Tot.bindE (spec_TextOk_tot s (by omega)) (Tot.bindE (impl_TextOk_tot s (by omega)) ?_)
  exact Tot.neg (by simp) (Tot.now rfl)
end Go.Proofs.Ytpoleflmmdlgjaa.Pure
