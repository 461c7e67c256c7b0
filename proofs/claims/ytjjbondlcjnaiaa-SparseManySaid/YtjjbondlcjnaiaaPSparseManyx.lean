-- written by a program of this session, after the kit's print
import Derived.Test.YtjjbondlcjnaiaaPSparseManyx0
import Derived.Test.YtjjbondlcjnaiaaPSparseManyx1
import Derived.Test.YtjjbondlcjnaiaaPSparseManyx2
import Derived.Test.YtjjbondlcjnaiaaPSparseManyx3
import Derived.Test.YtjjbondlcjnaiaaPSparseManyx4
import Derived.Test.YtjjbondlcjnaiaaPSparseManyx5
import Derived.Test.YtjjbondlcjnaiaaPSparseManyx6
import Derived.Test.YtjjbondlcjnaiaaPSparseManyx7
import Derived.Test.YtjjbondlcjnaiaaPSparseManyx8
import Derived.Test.YtjjbondlcjnaiaaPSparseManyx9
import Derived.Test.YtjjbondlcjnaiaaPSparseManyx10
import Derived.Test.YtjjbondlcjnaiaaPSparseManyx11
import Derived.Test.YtjjbondlcjnaiaaPSparseManyx12
namespace Go.Proofs.Ytjjbondlcjnaiaa.PSparseMany
open Go.RowKit Go.Proofs.YtjjbondlcjnaiaaW.PrintWords Go.Proofs.YtjjbondlcjnaiaaW.PrintLast Go.Proofs.YtjjbondlcjnaiaaW.PrintMore
attribute [local go_sem] max2_int min2_int max_two min_two max_three min_three max_four min_four   -- for this text's walks alone
set_option linter.unusedVariables false
set_option linter.unusedSimpArgs false

end Go.Proofs.Ytjjbondlcjnaiaa.PSparseMany
