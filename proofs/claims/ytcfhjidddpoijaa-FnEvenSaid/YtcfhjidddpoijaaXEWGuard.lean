/- Lemmas on memory that the walks use: print.sh's words less what this claim does not name; conditions: as each says. -/
import Derived.Test.YtcfhjidddpoijaaXEWWords
namespace Go.Proofs.YtcfhjidddpoijaaW.PrintWords
open Go.RowKit
section
variable {P : Program} {ops : Array Oper} {rest : List Oper} {o : Oper} {a : Act} {Q : Exit → Act → World → Prop} {W : World}
end
end Go.Proofs.YtcfhjidddpoijaaW.PrintWords
