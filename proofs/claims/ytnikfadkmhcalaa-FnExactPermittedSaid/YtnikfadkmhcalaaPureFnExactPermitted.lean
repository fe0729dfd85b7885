/- The law FnExactPermitted on numbers: the program's and the reference's answers are one; no condition. -/
import Derived.Test.YtnikfadkmhcalaaQ18
import Derived.Test.YtnikfadkmhcalaaDmB
namespace Go.Proofs.Ytnikfadkmhcalaa.Pure
open Go.RowKit

theorem FnExactPermitted (a0_0 : Int) (a0_1 : Int) (a0_2 : Int) (a0_3 : Int) (a0_4 : Int) (a1 : Int) (a2 : Int) : ∃ k, Q.laws_FnExactPermitted.f k a0_0 a0_1 a0_2 a0_3 a0_4 a1 a2 = some true := by
  refine ⟨60001, ?_⟩
  simp only [Q.laws_FnExactPermitted.f, Q.laws_toBrakes.f, Option.bind_some]
  rw [Q.spec_Permitted.is _ _ _ _ _ _ _ _ (by decide)]
  simp only [Q.impl_Permitted.f, Option.bind_some, if_true]

end Go.Proofs.Ytnikfadkmhcalaa.Pure
