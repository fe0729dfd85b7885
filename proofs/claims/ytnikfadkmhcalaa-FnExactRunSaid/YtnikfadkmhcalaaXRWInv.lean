/- Lemmas on memory that the walks use: print.sh's words less what this claim does not name; conditions: as each says. -/
import Derived.Test.YtnikfadkmhcalaaXRWTab
namespace Go.Proofs.YtnikfadkmhcalaaW.PrintLast
def up (b : Nat → Bool) (i : Nat) : Nat → Bool := fun j => if j = i then true else b j
section
variable {P : Program} {ops : Array Oper} {Q : Exit → Act → World → Prop} {md : Region.Mode} {T : Bool × List (List Nat × List Nat)} {B : List Nat} {O : List Nat} {b : Nat → Bool} {i j n : Nat}
end
end Go.Proofs.YtnikfadkmhcalaaW.PrintLast
