/- Lemmas on memory that the walks use: print.sh's words less what this claim does not name; conditions: as each says. -/
import Derived.Test.YtnikfadkmhcalaaXRWTab
namespace Go.Proofs.YtnikfadkmhcalaaW.PrintLast
section
variable {P : Program} {ops : Array Oper} {Q : Exit → Act → World → Prop} {md : Region.Mode} {S : World → Prop} {ds : List Nat} {T : Bool × List (List Nat × List Nat)}
end
end Go.Proofs.YtnikfadkmhcalaaW.PrintLast
