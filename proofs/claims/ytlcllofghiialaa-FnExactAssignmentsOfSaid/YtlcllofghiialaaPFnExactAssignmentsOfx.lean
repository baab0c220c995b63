-- PRINTED by print.py (a twelfth state) out of the translation. Not trusted: Lean checks it.
import Derived.Test.YtlcllofghiialaaPFnExactAssignmentsOfx0
import Derived.Test.YtlcllofghiialaaPFnExactAssignmentsOfx1
import Derived.Test.YtlcllofghiialaaPFnExactAssignmentsOfx2
import Derived.Test.YtlcllofghiialaaPFnExactAssignmentsOfx3
import Derived.Test.YtlcllofghiialaaPFnExactAssignmentsOfx4
import Derived.Test.YtlcllofghiialaaPFnExactAssignmentsOfx5
namespace Go.Proofs.Ytlcllofghiialaa.PFnExactAssignmentsOf
open Go.RowKit Go.Proofs.YtlcllofghiialaaG Go.Proofs.YtlcllofghiialaaW.PrintWords Go.Proofs.YtlcllofghiialaaW.PrintLast Go.Proofs.YtlcllofghiialaaW.PrintMore
attribute [local go_sem] max2_int min2_int max_two min_two max_three min_three max_four min_four   -- for this text's walks alone
set_option linter.unusedVariables false
set_option linter.unusedSimpArgs false

end Go.Proofs.Ytlcllofghiialaa.PFnExactAssignmentsOf
