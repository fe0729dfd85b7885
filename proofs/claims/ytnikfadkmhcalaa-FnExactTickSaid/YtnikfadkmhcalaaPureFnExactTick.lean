/- The law FnExactTick on numbers: the program's and the reference's answers are one; no condition. -/
import Derived.Test.YtnikfadkmhcalaaQ22
import Derived.Test.YtnikfadkmhcalaaDmS
namespace Go.Proofs.Ytnikfadkmhcalaa.Pure
open Go.RowKit

theorem eqSaid_same (b : Bool) (st en sp : Int) (k c : Bool) : Q.laws_eqSaid.f b st en sp k c b st en sp k c = some true := by
  simp [Q.laws_eqSaid.f, Q.laws_eqGuard.f]

theorem FnExactTick (a0_0 : Int) (a0_1 : Int) (a0_2 : Int) (a0_3 : Int) (a0_4 : Int) (a1_0 : Int) (a1_1 : Int) (a2_0 : Int) (a2_1 : Int) (a2_2 : Int) (a2_3 : Int) (a2_4 : Bool) : ∃ k, Q.laws_FnExactTick.f k a0_0 a0_1 a0_2 a0_3 a0_4 a1_0 a1_1 a2_0 a2_1 a2_2 a2_3 a2_4 = some true := by
  refine ⟨70000, ?_⟩
  simp only [Q.laws_FnExactTick.f, Q.laws_toBrakes.f, Q.laws_toGuard.f, Q.laws_toFelt.f, Option.bind_some]
  rw [Q.spec_Tick.is _ _ _ _ _ _ _ _ _ _ _ _ _ (by decide), Q.impl_Tick.is _ _ _ _ _ _ _ _ _ _ _ _ _ (by decide)]
  simp only [Option.bind_some, eqSaid_same]
  simp

end Go.Proofs.Ytnikfadkmhcalaa.Pure
