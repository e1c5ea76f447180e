/- Small plain definitions, too: names, changes. -/
import Derived.Test.YtagfiehoodepbaaDoorU
namespace Go.Proofs.YtagfiehoodepbaaDoorU
open Go.RowKit Go.Proofs.YtagfiehoodepbaaDoorW.PrintWords Go.Proofs.YtagfiehoodepbaaDoorW.PrintLast
set_option linter.unusedVariables false
set_option linter.unusedSimpArgs false
/-! ### names, changes -/
def isName (s : ByteArray) : Bool := decide ((s.size : Int) = 1) && (decide (65 ≤ bt s 0) && decide (bt s 0 ≤ 68))
def empty (s : ByteArray) : Bool := s.toList == []
def opOk (kind : Int) (nm dst : ByteArray) (n : Int) (t : ByteArray) : Bool :=
  isName nm && (if kind = 1 then empty dst && (decide (1 ≤ n) && decide (n ≤ 6)) && empty t
    else if kind = 2 then empty dst && (decide (0 ≤ n) && decide (n ≤ 5)) && textOk t
    else if kind = 3 then isName dst && decide (n = 0) && empty t
    else if kind = 4 then empty dst && decide (n = 0) && empty t else false)
theorem least {p : Nat → Prop} (h : ∃ j, p j) : ∃ j, p j ∧ ∀ i, i < j → ¬ p i := by
  obtain ⟨j, hj⟩ := h
  induction j using Nat.strongRecOn with
  | _ j ih =>
    by_cases h : ∃ i, i < j ∧ p i
    · obtain ⟨i, hi, hp⟩ := h
      exact ih i hi hp
    · exact ⟨j, hj, fun i hi hp => h ⟨i, hi, hp⟩⟩

end Go.Proofs.YtagfiehoodepbaaDoorU
