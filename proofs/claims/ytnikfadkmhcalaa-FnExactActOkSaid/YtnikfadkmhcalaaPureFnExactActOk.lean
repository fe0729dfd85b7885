/- The law FnExactActOk on numbers: the program's and the reference's answers are one; no condition. -/
import Derived.Test.YtnikfadkmhcalaaQ4
namespace Go.Proofs.Ytnikfadkmhcalaa.Pure
open Go.RowKit

theorem FnExactActOk (a0_0 : Int) (a0_1 : Int) (a0_2 : Int) (a0_3 : Int) (a0_4 : Int) (a1_0 : Int) (a1_1 : Int) (a1_2 : Int) (a1_3 : Int) (a1_4 : Int) (a1_5 : Int) (a1_6 : Bool) : Q.laws_FnExactActOk.f a0_0 a0_1 a0_2 a0_3 a0_4 a1_0 a1_1 a1_2 a1_3 a1_4 a1_5 a1_6 = some true := by
  have sin : ∀ x lo hi, Q.spec_l1in.f x lo hi = some (decide (lo ≤ x ∧ x ≤ hi)) := by
    intro x lo hi
    unfold Q.spec_l1in.f
    by_cases c : lo ≤ x <;> simp [c]
  have iin : ∀ x lo hi, Q.impl_in.f x lo hi = some (decide (lo ≤ x ∧ x ≤ hi)) := sin
  have eb : Q.spec_BrakesOk.f = Q.impl_BrakesOk.f := rfl
  obtain ⟨b, hb⟩ : ∃ b, Q.impl_BrakesOk.f a0_0 a0_1 a0_2 a0_3 a0_4 = some b := by
    simp only [Q.impl_BrakesOk.f, iin, Option.bind_some]
    by_cases c1 : 10 ≤ a0_0 ∧ a0_0 ≤ 1000 <;> by_cases c2 : a0_0 ≤ a0_1 ∧ a0_1 ≤ 1000 <;> by_cases c3 : 0 ≤ a0_2 ∧ a0_2 ≤ 20 <;> by_cases c4 : 0 ≤ a0_3 ∧ a0_3 ≤ 100 <;> simp [c1, c2, c3, c4]
  have ee : Q.spec_ActOk.f a0_0 a0_1 a0_2 a0_3 a0_4 a1_0 a1_1 a1_2 a1_3 a1_4 a1_5 a1_6 = Q.impl_ActOk.f a0_0 a0_1 a0_2 a0_3 a0_4 a1_0 a1_1 a1_2 a1_3 a1_4 a1_5 a1_6 := by
    simp only [Q.spec_ActOk.f, Q.impl_ActOk.f, Q.spec_l1speed.f, Q.impl_end.f, sin, iin, eb, Option.bind_some]
  obtain ⟨r, hr⟩ : ∃ r, Q.impl_ActOk.f a0_0 a0_1 a0_2 a0_3 a0_4 a1_0 a1_1 a1_2 a1_3 a1_4 a1_5 a1_6 = some r := by
    simp only [Q.impl_ActOk.f, Q.impl_end.f, iin, hb, Option.bind_some]
    repeat' split
    all_goals exact ⟨_, rfl⟩
  simp only [Q.laws_FnExactActOk.f, Q.laws_toBrakes.f, Q.laws_toAct.f, ee, hr, Option.bind_some]
  simp

end Go.Proofs.Ytnikfadkmhcalaa.Pure
