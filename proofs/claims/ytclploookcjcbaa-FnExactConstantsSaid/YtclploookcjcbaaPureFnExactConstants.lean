/- Proved: the printed Lean function of the law FnExactConstants answers true; it has no argument and no condition. -/
import Derived.Test.YtclploookcjcbaaPFnExactConstantsx1
namespace Go.Proofs.Ytclploookcjcbaa.Pure
open Go.RowKit Go.Proofs.Ytclploookcjcbaa.PFnExactConstants Go.Proofs.YtclploookcjcbaaW.PrintWords Go.Proofs.YtclploookcjcbaaW.PrintLast

/-- YOURS: laws_FnExactConstants.f  = some true
What it reaches (each with k first where it has rounds; `.mono`: more rounds tell the same; `.l0`, ..: its loops, with `.mono_l`): laws_FnExactConstants.f -/
theorem FnExactConstants : laws_FnExactConstants.Pure := by
  rfl

end Go.Proofs.Ytclploookcjcbaa.Pure
