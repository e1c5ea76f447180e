/- NodeNew of the program gives what NodeNew of the reference gives, for every number. -/
import Derived.Test.YtpoleflmmdlgjaaQFnExactNodeNew4
import Derived.Test.YtpoleflmmdlgjaaU2
set_option linter.unusedVariables false
set_option linter.unusedSimpArgs false
namespace Go.Proofs.Ytpoleflmmdlgjaa.Pure
open Go.RowKit Go.Proofs.Ytpoleflmmdlgjaa.PFnExactNodeNew Go.Proofs.YtpoleflmmdlgjaaW.PrintWords Go.Proofs.YtpoleflmmdlgjaaW.PrintLast Go.Proofs.YtpoleflmmdlgjaaU
set_option maxRecDepth 100000 in
theorem FnExactNodeNew : laws_FnExactNodeNew.Pure := by
  intro a ha
  have hw := wf_i64 ha
  by_cases h1 : a = 1
  · subst h1; exact ⟨30, by decide +kernel⟩
  by_cases h2 : a = 2
  · subst h2; exact ⟨30, by decide +kernel⟩
  refine ⟨30, ?_⟩
  have e1 : spec_NodeNew.f a = some (false, 0, false, false, ([] : List (S49)), false) := by
    unfold spec_NodeNew.f spec_l6In.f
    by_cases h : a ≥ 1
    · rw [if_pos h]; simp [show ¬ a ≤ 2 from by omega]
    · rw [if_neg h]; simp
  have e2 : impl_NodeNew.f a = some (false, 0, false, false, ([] : List (S49)), false) := by
    unfold impl_NodeNew.f
    rw [if_neg h1, if_neg h2]
  have z : laws_FnExactNodeNew.f 30 a = laws_FnExactNodeNew.f 30 0 := by
    have d1 : spec_NodeNew.f 0 = some (false, 0, false, false, ([] : List (S49)), false) := rfl
    have d2 : impl_NodeNew.f 0 = some (false, 0, false, false, ([] : List (S49)), false) := rfl
    unfold laws_FnExactNodeNew.f
    rw [e1, e2, d1, d2]
    simp only [Option.bind_some, laws_FnExactNodeNew.j0, e2, d2]
  rw [z]
  decide +kernel
end Go.Proofs.Ytpoleflmmdlgjaa.Pure
