/- The law FnExactBrakesOk on numbers: the program's and the reference's answers are one; no condition. -/
import Derived.Test.YtnikfadkmhcalaaQ2
namespace Go.Proofs.Ytnikfadkmhcalaa.Pure
open Go.RowKit

theorem FnExactBrakesOk (a0_0 : Int) (a0_1 : Int) (a0_2 : Int) (a0_3 : Int) (a0_4 : Int) : Q.laws_FnExactBrakesOk.f a0_0 a0_1 a0_2 a0_3 a0_4 = some true := by
  have sin : ∀ x lo hi, Q.spec_l1in.f x lo hi = some (decide (lo ≤ x ∧ x ≤ hi)) := by
    intro x lo hi
    unfold Q.spec_l1in.f
    by_cases c : lo ≤ x <;> simp [c]
  have iin : ∀ x lo hi, Q.impl_in.f x lo hi = some (decide (lo ≤ x ∧ x ≤ hi)) := sin
  simp only [Q.laws_FnExactBrakesOk.f, Q.laws_toBrakes.f, Q.spec_BrakesOk.f, Q.impl_BrakesOk.f, sin, iin, Option.bind_some]
  by_cases c1 : 10 ≤ a0_0 ∧ a0_0 ≤ 1000 <;> by_cases c2 : a0_0 ≤ a0_1 ∧ a0_1 ≤ 1000 <;> by_cases c3 : 0 ≤ a0_2 ∧ a0_2 ≤ 20 <;> by_cases c4 : 0 ≤ a0_3 ∧ a0_3 ≤ 100 <;> simp [c1, c2, c3, c4]

end Go.Proofs.Ytnikfadkmhcalaa.Pure
