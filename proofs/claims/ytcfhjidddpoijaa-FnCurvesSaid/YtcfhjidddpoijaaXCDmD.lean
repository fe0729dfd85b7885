/- What the program's Drive tells, on numbers and lists; conditions: rounds enough. -/
import Derived.Test.YtcfhjidddpoijaaXCQ0
import Derived.Test.YtcfhjidddpoijaaXCQ4
import Derived.Test.YtcfhjidddpoijaaXCQ5
import Derived.Test.YtcfhjidddpoijaaXCQ6
import Derived.Test.YtcfhjidddpoijaaXCDmT
namespace Go.Proofs.Ytcfhjidddpoijaa.Q
open Go.RowKit Go.Proofs.YtcfhjidddpoijaaW.PrintWords Go.Proofs.YtcfhjidddpoijaaW.PrintLast Go.Proofs.YtcfhjidddpoijaaW.PrintMore
set_option linter.unusedSimpArgs false

theorem lim_ok {a i n : Nat} (h : a = i) (hi : i < n) (hn : n ≤ 1000) : a < 2513169434916 := Nat.lt_of_lt_of_le (show a < 1001 by omega) (by decide)
/-- is an act right -/
def goodAct (a : Int) (e : S39) : Prop := (-1000 ≤ e.f0 ∧ e.f0 ≤ a) ∧ (0 ≤ e.f1 ∧ e.f1 ≤ 1000) ∧ (0 ≤ e.f2 ∧ e.f2 ≤ 100) ∧ (0 ≤ e.f3 ∧ e.f3 ≤ 1000) ∧ (-1 ≤ e.f4 ∧ e.f4 ≤ 100000000) ∧ (0 ≤ e.f5 ∧ e.f5 ≤ 10000)
instance (a : Int) (e : S39) : Decidable (goodAct a e) := by unfold goodAct; exact inferInstance

end Go.Proofs.Ytcfhjidddpoijaa.Q
