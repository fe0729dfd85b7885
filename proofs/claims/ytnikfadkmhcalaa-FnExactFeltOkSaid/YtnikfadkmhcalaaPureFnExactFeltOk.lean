/- The law FnExactFeltOk on numbers: the program's and the reference's answers are one; no condition. -/
import Derived.Test.YtnikfadkmhcalaaQ2
namespace Go.Proofs.Ytnikfadkmhcalaa.Pure
open Go.RowKit

theorem FnExactFeltOk (a0_0 : Int) (a0_1 : Int) (a0_2 : Int) (a0_3 : Int) (a0_4 : Bool) : Q.laws_FnExactFeltOk.f a0_0 a0_1 a0_2 a0_3 a0_4 = some true := by
  have sin : ∀ x lo hi, Q.spec_l1in.f x lo hi = some (decide (lo ≤ x ∧ x ≤ hi)) := by
    intro x lo hi
    unfold Q.spec_l1in.f
    by_cases c : lo ≤ x <;> simp [c]
  have iin : ∀ x lo hi, Q.impl_in.f x lo hi = some (decide (lo ≤ x ∧ x ≤ hi)) := sin
  simp only [Q.laws_FnExactFeltOk.f, Q.laws_toFelt.f, Q.spec_FeltOk.f, Q.impl_FeltOk.f, Q.impl_end.f, Q.spec_l1speed.f, sin, iin, Option.bind_some]
  by_cases c1 : 0 ≤ a0_0 ∧ a0_0 ≤ 100000000 <;> by_cases c2 : 0 ≤ a0_1 ∧ a0_1 ≤ 10000 <;> by_cases c3 : -1 ≤ a0_2 ∧ a0_2 ≤ 100000000 <;> simp [c1, c2, c3]

end Go.Proofs.Ytnikfadkmhcalaa.Pure
