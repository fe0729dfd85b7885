/- The law FnExactMostHard on numbers: the program's and the reference's answers are one; no condition. -/
import Derived.Test.YtnikfadkmhcalaaQ15
import Derived.Test.YtnikfadkmhcalaaDmA
namespace Go.Proofs.Ytnikfadkmhcalaa.Pure
open Go.RowKit

theorem FnExactMostHard (a0_0 : Int) (a0_1 : Int) (a0_2 : Int) (a0_3 : Int) (a0_4 : Int) (a1 : Int) : ∃ k, Q.laws_FnExactMostHard.f k a0_0 a0_1 a0_2 a0_3 a0_4 a1 = some true := by
  refine ⟨40001, ?_⟩
  simp only [Q.laws_FnExactMostHard.f, Q.laws_toBrakes.f, Option.bind_some]
  rw [Q.spec_MostHard.is _ _ _ _ _ _ _ (by decide)]
  simp only [Q.impl_MostHard.f, Option.bind_some, if_true]

end Go.Proofs.Ytnikfadkmhcalaa.Pure
