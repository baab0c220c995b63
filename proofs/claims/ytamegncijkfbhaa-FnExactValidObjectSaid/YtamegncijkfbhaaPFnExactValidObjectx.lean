-- PRINTED by print.py (a twelfth state) out of the translation. Not trusted: Lean checks it.
import Derived.Test.YtamegncijkfbhaaPFnExactValidObjectx0
import Derived.Test.YtamegncijkfbhaaPFnExactValidObjectx1
import Derived.Test.YtamegncijkfbhaaPFnExactValidObjectx2
import Derived.Test.YtamegncijkfbhaaPFnExactValidObjectx3
import Derived.Test.YtamegncijkfbhaaPFnExactValidObjectx4
import Derived.Test.YtamegncijkfbhaaPFnExactValidObjectx5
import Derived.Test.YtamegncijkfbhaaPFnExactValidObjectx6
import Derived.Test.YtamegncijkfbhaaPFnExactValidObjectx7
import Derived.Test.YtamegncijkfbhaaPFnExactValidObjectx8
import Derived.Test.YtamegncijkfbhaaPFnExactValidObjectx9
namespace Go.Proofs.Ytamegncijkfbhaa.PFnExactValidObject
open Go.RowKit Go.Proofs.YtamegncijkfbhaaG Go.Proofs.YtamegncijkfbhaaW.PrintWords Go.Proofs.YtamegncijkfbhaaW.PrintLast Go.Proofs.YtamegncijkfbhaaW.PrintMore
attribute [local go_sem] max2_int min2_int max_two min_two max_three min_three max_four min_four   -- for this text's walks alone
set_option linter.unusedVariables false
set_option linter.unusedSimpArgs false

end Go.Proofs.Ytamegncijkfbhaa.PFnExactValidObject
