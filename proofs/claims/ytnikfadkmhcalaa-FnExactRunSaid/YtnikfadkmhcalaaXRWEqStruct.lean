/- Lemmas on memory that the walks use: print.sh's words less what this claim does not name; conditions: as each says. -/
import Derived.Test.YtnikfadkmhcalaaXRWWords
import Derived.Laws.StructEq
namespace Go.Proofs.YtnikfadkmhcalaaW.PrintWords
open Go.RowKit
section
variable {P : Program} {d : Nat} {xs ys : Array Value} {f : Field} {fs : List Field} {a b : Value} {r s : Bool} {w : World}
end
end Go.Proofs.YtnikfadkmhcalaaW.PrintWords
