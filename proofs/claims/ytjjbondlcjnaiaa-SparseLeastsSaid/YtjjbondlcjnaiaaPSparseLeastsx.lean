-- written by a program of this session, after the kit's print
import Derived.Test.YtjjbondlcjnaiaaPSparseLeastsx0
import Derived.Test.YtjjbondlcjnaiaaPSparseLeastsx1
import Derived.Test.YtjjbondlcjnaiaaPSparseLeastsx2
import Derived.Test.YtjjbondlcjnaiaaPSparseLeastsx3
import Derived.Test.YtjjbondlcjnaiaaPSparseLeastsx4
import Derived.Test.YtjjbondlcjnaiaaPSparseLeastsx5
import Derived.Test.YtjjbondlcjnaiaaPSparseLeastsx6
import Derived.Test.YtjjbondlcjnaiaaPSparseLeastsx7
import Derived.Test.YtjjbondlcjnaiaaPSparseLeastsx8
import Derived.Test.YtjjbondlcjnaiaaPSparseLeastsx9
import Derived.Test.YtjjbondlcjnaiaaPSparseLeastsx10
import Derived.Test.YtjjbondlcjnaiaaPSparseLeastsx11
import Derived.Test.YtjjbondlcjnaiaaPSparseLeastsx12
namespace Go.Proofs.Ytjjbondlcjnaiaa.PSparseLeasts
open Go.RowKit Go.Proofs.YtjjbondlcjnaiaaW.PrintWords Go.Proofs.YtjjbondlcjnaiaaW.PrintLast Go.Proofs.YtjjbondlcjnaiaaW.PrintMore
attribute [local go_sem] max2_int min2_int max_two min_two max_three min_three max_four min_four   -- for this text's walks alone
set_option linter.unusedVariables false
set_option linter.unusedSimpArgs false

end Go.Proofs.Ytjjbondlcjnaiaa.PSparseLeasts
