/- Small words that the walks use. -/
import Derived.Test.YtagfiehoodepbaaDoorWMore
namespace Go.Proofs.YtagfiehoodepbaaDoorB
theorem bne1 (a b : Bool) : (a == b) = ((!a) != b) := by cases a <;> cases b <;> rfl
theorem bne2 (a b : Bool) : (a != b) = ((!a) == b) := by cases a <;> cases b <;> rfl
theorem bne3 (a b : Bool) : (a == b) = !(a != b) := by cases a <;> cases b <;> rfl
theorem bne4 (a b : Bool) : (a != b) = !(a == b) := by cases a <;> cases b <;> rfl
theorem emp1 (l : List UInt8) : l.isEmpty = !(l != []) := by cases l <;> rfl
theorem emp2 (l : List UInt8) : (!l.isEmpty) = (l != []) := by cases l <;> rfl
theorem emp3 (l : List UInt8) : l.isEmpty = (l == []) := by cases l <;> rfl
end Go.Proofs.YtagfiehoodepbaaDoorB
