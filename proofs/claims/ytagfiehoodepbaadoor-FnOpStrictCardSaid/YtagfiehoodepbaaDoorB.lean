/- Small words that the walks use. -/
import Derived.Test.YtagfiehoodepbaaDoorWMore
set_option linter.unusedVariables false
set_option linter.unusedSimpArgs false
namespace Go.Proofs.YtagfiehoodepbaaDoorB
theorem bne1 (a b : Bool) : (a == b) = ((!a) != b) := by cases a <;> cases b <;> rfl
theorem bne2 (a b : Bool) : (a != b) = ((!a) == b) := by cases a <;> cases b <;> rfl
theorem bne3 (a b : Bool) : (a == b) = !(a != b) := by cases a <;> cases b <;> rfl
theorem bne4 (a b : Bool) : (a != b) = !(a == b) := by cases a <;> cases b <;> rfl
theorem emp1 (l : List UInt8) : l.isEmpty = !(l != []) := by cases l <;> rfl
theorem emp2 (l : List UInt8) : (!l.isEmpty) = (l != []) := by cases l <;> rfl
theorem emp3 (l : List UInt8) : l.isEmpty = (l == []) := by cases l <;> rfl
theorem gtr_eq : ∀ x y : List UInt8, (!Go.Op.bytesLess x y && !x == y) = Go.Op.bytesLess y x
  | [], [] => rfl
  | [], _ :: _ => rfl
  | _ :: _, [] => rfl
  | a :: x, b :: y => by
    have ih := gtr_eq x y
    have e : ∀ p q : UInt8, (p == q) = decide (p.toNat = q.toNat) := fun p q => by
      by_cases h : p = q
      · subst h; simp
      · have h2 : p.toNat ≠ q.toNat := fun h3 => h (UInt8.toNat_inj.1 h3)
        simp [h, h2]
    have l : ∀ p q : UInt8, decide (p < q) = decide (p.toNat < q.toNat) := fun p q => rfl
    have c : ((a :: x) == (b :: y)) = (a == b && x == y) := rfl
    simp only [Go.Op.bytesLess, c, e, l]
    rcases Nat.lt_trichotomy a.toNat b.toNat with h | h | h
    · have h1 : ¬ b.toNat < a.toNat := by omega
      have h2 : ¬ b.toNat = a.toNat := by omega
      have h3 : ¬ a.toNat = b.toNat := by omega
      simp [h, h1, h2, h3]
    · have h1 : ¬ b.toNat < a.toNat := by omega
      have h2 : ¬ a.toNat < b.toNat := by omega
      simp only [h, h1, h2] at ih ⊢
      simpa using ih
    · have h1 : ¬ a.toNat < b.toNat := by omega
      have h3 : ¬ a.toNat = b.toNat := by omega
      simp [h, h1, h3]
end Go.Proofs.YtagfiehoodepbaaDoorB
