-- PRINTED by print.py (a twelfth state) out of the translation. Not trusted: Lean checks it.
import Derived.Test.YtamegncijkfbhaaYValidHeapPx0
import Derived.Test.YtamegncijkfbhaaYValidHeapPx1
import Derived.Test.YtamegncijkfbhaaYValidHeapPx2
import Derived.Test.YtamegncijkfbhaaYValidHeapPx3
import Derived.Test.YtamegncijkfbhaaYValidHeapPx4
import Derived.Test.YtamegncijkfbhaaYValidHeapPx5
import Derived.Test.YtamegncijkfbhaaYValidHeapPx6
import Derived.Test.YtamegncijkfbhaaYValidHeapPx7
import Derived.Test.YtamegncijkfbhaaYValidHeapPx8
import Derived.Test.YtamegncijkfbhaaYValidHeapPx9
import Derived.Test.YtamegncijkfbhaaYValidHeapPx10
import Derived.Test.YtamegncijkfbhaaYValidHeapPx11
import Derived.Test.YtamegncijkfbhaaYValidHeapPx12
import Derived.Test.YtamegncijkfbhaaYValidHeapPx13
import Derived.Test.YtamegncijkfbhaaYValidHeapPx14
import Derived.Test.YtamegncijkfbhaaYValidHeapPx15
namespace Go.Proofs.Ytamegncijkfbhaa.PFnExactValidHeap
open Go.RowKit Go.Proofs.YtamegncijkfbhaaG Go.Proofs.YtamegncijkfbhaaW.PrintWords Go.Proofs.YtamegncijkfbhaaW.PrintLast Go.Proofs.YtamegncijkfbhaaW.PrintMore
attribute [local go_sem] max2_int min2_int max_two min_two max_three min_three max_four min_four   -- for this text's walks alone
set_option linter.unusedVariables false
set_option linter.unusedSimpArgs false

end Go.Proofs.Ytamegncijkfbhaa.PFnExactValidHeap
