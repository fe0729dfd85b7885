import Derived.Test.YtnikfadkmhcalaaXDWInv
import Derived.Test.YtnikfadkmhcalaaXDWFootNe
namespace Go.Proofs.YtnikfadkmhcalaaW.PrintWords
open Go.RowKit
end Go.Proofs.YtnikfadkmhcalaaW.PrintWords
namespace Go.Proofs.YtnikfadkmhcalaaW.PrintLast
section
variable {ops : Array Oper} {a : Act} {o og : Oper} {g : Nat} {t : Tmp} {u : Bool}
end
end Go.Proofs.YtnikfadkmhcalaaW.PrintLast
