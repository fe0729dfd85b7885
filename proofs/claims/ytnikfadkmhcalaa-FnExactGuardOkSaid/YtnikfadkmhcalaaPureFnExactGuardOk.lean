/- The law FnExactGuardOk on numbers: the program's and the reference's answers are one; no condition. -/
import Derived.Test.YtnikfadkmhcalaaQ1
namespace Go.Proofs.Ytnikfadkmhcalaa.Pure
open Go.RowKit

theorem sin (x lo hi : Int) : Q.spec_l1in.f x lo hi = some (decide (lo ≤ x ∧ x ≤ hi)) := by
  unfold Q.spec_l1in.f
  by_cases c : lo ≤ x <;> simp [c]
theorem iin (x lo hi : Int) : Q.impl_in.f x lo hi = some (decide (lo ≤ x ∧ x ≤ hi)) := sin x lo hi

theorem FnExactGuardOk (a0_0 : Int) (a0_1 : Int) : Q.laws_FnExactGuardOk.f a0_0 a0_1 = some true := by
  simp only [Q.laws_FnExactGuardOk.f, Q.laws_toGuard.f, Q.spec_GuardOk.f, Q.impl_GuardOk.f, Q.impl_end.f, sin, iin, Option.bind_some]
  by_cases c : 0 ≤ a0_0 ∧ a0_0 ≤ 3 <;> simp [c]

end Go.Proofs.Ytnikfadkmhcalaa.Pure
