/- FnExactConstants's pure statement: the law's plain function tells true; no condition. -/
import Derived.Test.YtnikfadkmhcalaaPFnExactConstantsx1
namespace Go.Proofs.Ytnikfadkmhcalaa.Pure
open Go.RowKit Go.Proofs.Ytnikfadkmhcalaa.PFnExactConstants Go.Proofs.YtnikfadkmhcalaaW.PrintWords Go.Proofs.YtnikfadkmhcalaaW.PrintLast

/-- YOURS: laws_FnExactConstants.f  = some true
What it reaches (each with k first where it has rounds; `.mono`: more rounds tell the same; `.l0`, ..: its loops, with `.mono_l`): laws_FnExactConstants.f -/
theorem FnExactConstants : laws_FnExactConstants.Pure := by
  rfl

end Go.Proofs.Ytnikfadkmhcalaa.Pure
