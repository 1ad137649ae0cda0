/- Proved: the printed Lean function of the law FnExactEmpty answers true with eight rounds; it has no argument and no condition. -/
import Derived.Test.YtclploookcjcbaaPEmptyx5
namespace Go.Proofs.Ytclploookcjcbaa.Pure
open Go.RowKit Go.Proofs.Ytclploookcjcbaa.PEmpty Go.Proofs.YtclploookcjcbaaW.PrintWords Go.Proofs.YtclploookcjcbaaW.PrintLast

/-- YOURS: ∃ k, laws_FnExactEmpty.f k  = some true
What it reaches (each with k first where it has rounds; `.mono`: more rounds tell the same; `.l0`, ..: its loops, with `.mono_l`): spec_Empty.f, impl_Empty.f, laws_eqShape.f, laws_eqShapeS.f, laws_eqForest.f, laws_eqTableS.f, laws_eqSite.f, laws_eqSiteS.f, laws_eqStore.f, laws_markText.f, laws_markShapeS.f, laws_markForest.f, laws_markTableS.f, laws_markSiteS.f, laws_markStore.f, laws_heldShapeS.f, laws_heldForest.f, laws_heldTableS.f, laws_heldSiteS.f, laws_heldStore.f, laws_FnExactEmpty.f -/
theorem FnExactEmpty : laws_FnExactEmpty.Pure := by
  exact ⟨8, by decide +kernel⟩

end Go.Proofs.Ytclploookcjcbaa.Pure
