/- Proved: each Go function that is named below comes to the answers of the Lean function printed for it. Printed by a changed copy of the kit's print program (wip/mkpk.py), for this claim. -/
import Derived.Test.YtclploookcjcbaaPKeyOfx0
import Derived.Test.YtclploookcjcbaaPKeyOfx1
import Derived.Test.YtclploookcjcbaaPKeyOfx2
import Derived.Test.YtclploookcjcbaaPKeyOfx3
import Derived.Test.YtclploookcjcbaaPKeyOfx4
import Derived.Test.YtclploookcjcbaaPKeyOfx5
namespace Go.Proofs.Ytclploookcjcbaa.PKeyOf
open Go.RowKit Go.Proofs.YtclploookcjcbaaW.PrintWords Go.Proofs.YtclploookcjcbaaW.PrintLast Go.Proofs.YtclploookcjcbaaW.PrintMore
attribute [local go_sem] max2_int min2_int max_two min_two max_three min_three max_four min_four   -- for this text's walks alone
set_option linter.unusedVariables false
set_option linter.unusedSimpArgs false

end Go.Proofs.Ytclploookcjcbaa.PKeyOf
