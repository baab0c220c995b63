-- PRINTED by print.py (a twelfth state) out of the translation. Not trusted: Lean checks it.
import Derived.Test.YtcnganocdjcbdaaPFnExactGotoTextx0
import Derived.Test.YtcnganocdjcbdaaPFnExactGotoTextx1
import Derived.Test.YtcnganocdjcbdaaPFnExactGotoTextx2
import Derived.Test.YtcnganocdjcbdaaPFnExactGotoTextx3
import Derived.Test.YtcnganocdjcbdaaPFnExactGotoTextx4
namespace Go.Proofs.Ytcnganocdjcbdaa.PFnExactGotoText
open Go.RowKit Go.Proofs.YtcnganocdjcbdaaG Go.Proofs.YtcnganocdjcbdaaW.PrintWords Go.Proofs.YtcnganocdjcbdaaW.PrintLast Go.Proofs.YtcnganocdjcbdaaW.PrintMore
attribute [local go_sem] max2_int min2_int max_two min_two max_three min_three max_four min_four   -- for this text's walks alone
set_option linter.unusedVariables false
set_option linter.unusedSimpArgs false

end Go.Proofs.Ytcnganocdjcbdaa.PFnExactGotoText
