-- PRINTED by print.py (a twelfth state) out of the translation. Not trusted: Lean checks it.
import Derived.Test.YtnneadpahjkhgaaPFnExactSameConsolex0
import Derived.Test.YtnneadpahjkhgaaPFnExactSameConsolex1
import Derived.Test.YtnneadpahjkhgaaPFnExactSameConsolex2
import Derived.Test.YtnneadpahjkhgaaPFnExactSameConsolex3
import Derived.Test.YtnneadpahjkhgaaPFnExactSameConsolex4
import Derived.Test.YtnneadpahjkhgaaPFnExactSameConsolex5
namespace Go.Proofs.Ytnneadpahjkhgaa.PFnExactSameConsole
open Go.RowKit Go.Proofs.YtnneadpahjkhgaaG Go.Proofs.YtnneadpahjkhgaaW.PrintWords Go.Proofs.YtnneadpahjkhgaaW.PrintLast Go.Proofs.YtnneadpahjkhgaaW.PrintMore
attribute [local go_sem] max2_int min2_int max_two min_two max_three min_three max_four min_four   -- for this text's walks alone
set_option linter.unusedVariables false
set_option linter.unusedSimpArgs false

end Go.Proofs.Ytnneadpahjkhgaa.PFnExactSameConsole
