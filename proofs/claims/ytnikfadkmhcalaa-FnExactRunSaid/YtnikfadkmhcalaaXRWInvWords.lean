/- Lemmas on memory that the walks use: print.sh's words less what this claim does not name; conditions: as each says. -/
import Derived.Test.YtnikfadkmhcalaaXRWInv
import Derived.Test.YtnikfadkmhcalaaXRWFootNe
namespace Go.Proofs.YtnikfadkmhcalaaW.PrintWords
open Go.RowKit
end Go.Proofs.YtnikfadkmhcalaaW.PrintWords
namespace Go.Proofs.YtnikfadkmhcalaaW.PrintLast
section
variable {ops : Array Oper} {a : Act} {o og : Oper} {g : Nat} {t : Tmp} {u : Bool}
end
end Go.Proofs.YtnikfadkmhcalaaW.PrintLast
