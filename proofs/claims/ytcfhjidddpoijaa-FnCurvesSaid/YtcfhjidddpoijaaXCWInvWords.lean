/- Lemmas on memory that the walks use: print.sh's words less what this claim does not name; conditions: as each says. -/
import Derived.Test.YtcfhjidddpoijaaXCWInv
import Derived.Test.YtcfhjidddpoijaaXCWFootNe
namespace Go.Proofs.YtcfhjidddpoijaaW.PrintWords
open Go.RowKit
end Go.Proofs.YtcfhjidddpoijaaW.PrintWords
namespace Go.Proofs.YtcfhjidddpoijaaW.PrintLast
section
variable {ops : Array Oper} {a : Act} {o og : Oper} {g : Nat} {t : Tmp} {u : Bool}
end
end Go.Proofs.YtcfhjidddpoijaaW.PrintLast
