-- PRINTED by print.py (a twelfth state) out of the translation. Not trusted: Lean checks it.
import Derived.Test.YtnneadpahjkhgaaPFnExactSameScopex0
import Derived.Test.YtnneadpahjkhgaaPFnExactSameScopex1
import Derived.Test.YtnneadpahjkhgaaPFnExactSameScopex2
import Derived.Test.YtnneadpahjkhgaaPFnExactSameScopex3
import Derived.Test.YtnneadpahjkhgaaPFnExactSameScopex4
import Derived.Test.YtnneadpahjkhgaaPFnExactSameScopex5
import Derived.Test.YtnneadpahjkhgaaPFnExactSameScopex6
import Derived.Test.YtnneadpahjkhgaaPFnExactSameScopex7
import Derived.Test.YtnneadpahjkhgaaPFnExactSameScopex8
import Derived.Test.YtnneadpahjkhgaaPFnExactSameScopex9
namespace Go.Proofs.Ytnneadpahjkhgaa.PFnExactSameScope
open Go.RowKit Go.Proofs.YtnneadpahjkhgaaG Go.Proofs.YtnneadpahjkhgaaW.PrintWords Go.Proofs.YtnneadpahjkhgaaW.PrintLast Go.Proofs.YtnneadpahjkhgaaW.PrintMore
attribute [local go_sem] max2_int min2_int max_two min_two max_three min_three max_four min_four   -- for this text's walks alone
set_option linter.unusedVariables false
set_option linter.unusedSimpArgs false

end Go.Proofs.Ytnneadpahjkhgaa.PFnExactSameScope
