/- The law FnExactWorst on numbers: the program's and the reference's answers are one; no condition. -/
import Derived.Test.YtnikfadkmhcalaaQ13
import Derived.Test.YtnikfadkmhcalaaDmA
namespace Go.Proofs.Ytnikfadkmhcalaa.Pure
open Go.RowKit

theorem FnExactWorst (a0_0 : Int) (a0_1 : Int) (a0_2 : Int) (a0_3 : Int) (a0_4 : Int) (a1 : Int) : ∃ k, Q.laws_FnExactWorst.f k a0_0 a0_1 a0_2 a0_3 a0_4 a1 = some true := by
  refine ⟨20101, ?_⟩
  simp only [Q.laws_FnExactWorst.f, Q.laws_toBrakes.f, Option.bind_some]
  rw [Q.spec_Worst.is _ _ _ _ _ _ _ (by decide), Q.impl_Worst.is _ _ _ _ _ _ _ (by decide)]
  simp only [Option.bind_some, if_true]

end Go.Proofs.Ytnikfadkmhcalaa.Pure
