/- TextNext of the program answers what TextNext of the reference answers, for every number. -/
import Derived.Test.YtpoleflmmdlgjaaPFnExactTextNextx1
import Derived.Test.YtpoleflmmdlgjaaU
set_option linter.unusedVariables false
set_option linter.unusedSimpArgs false
namespace Go.Proofs.Ytpoleflmmdlgjaa.Pure
open Go.RowKit Go.Proofs.Ytpoleflmmdlgjaa.PFnExactTextNext Go.Proofs.YtpoleflmmdlgjaaW.PrintWords Go.Proofs.YtpoleflmmdlgjaaW.PrintLast Go.Proofs.YtpoleflmmdlgjaaU
theorem spec_l6In_eq (a b c : Int) : spec_l6In.f a b c = some (decide (b ≤ a) && decide (a ≤ c)) := by
  unfold spec_l6In.f
  by_cases h : a ≥ b
  · rw [if_pos h]; simp [show b ≤ a from h]
  · rw [if_neg h]; simp [show ¬ b ≤ a from h]
theorem impl_within_eq (a b c : Int) : impl_within.f a b c = some (decide (b ≤ a) && decide (a ≤ c)) := by
  unfold impl_within.f
  by_cases h : a ≥ b
  · rw [if_pos h]; simp [show b ≤ a from h]
  · rw [if_neg h]; simp [show ¬ b ≤ a from h]
theorem tmod8 {a : Int} (h : 1 ≤ a) : Int.tmod a 8 = a % 8 := Int.tmod_eq_emod_of_nonneg (by omega)
theorem spec_TextNext_eq (a : Int) : spec_TextNext.f a = some (next a) := by
  unfold spec_TextNext.f
  rw [spec_l6In_eq, Option.bind_some]
  unfold next
  by_cases h : 1 ≤ a ∧ a ≤ 8
  · rw [if_pos h, if_pos (by simp [h.1, h.2])]
    unfold spec_l1Next.f
    rw [Option.bind_some, tmod8 h.1, w64 (by omega) (by omega)]
  · rw [if_neg h, if_neg (by simpa using h)]
theorem impl_TextNext_eq (a : Int) : impl_TextNext.f a = some (next a) := by
  unfold impl_TextNext.f impl_isSlot.f
  rw [impl_within_eq, Option.bind_some, Option.bind_some]
  unfold next
  by_cases h : 1 ≤ a ∧ a ≤ 8
  · rw [if_pos h, if_pos (by simp [h.1, h.2])]
    rw [tmod8 h.1, w64 (by omega) (by omega)]
  · rw [if_neg h, if_neg (by simpa using h)]
theorem FnExactTextNext : laws_FnExactTextNext.Pure := by
  intro a ha
  unfold laws_FnExactTextNext.f
  rw [spec_TextNext_eq, Option.bind_some, impl_TextNext_eq, Option.bind_some, if_pos rfl]
end Go.Proofs.Ytpoleflmmdlgjaa.Pure
