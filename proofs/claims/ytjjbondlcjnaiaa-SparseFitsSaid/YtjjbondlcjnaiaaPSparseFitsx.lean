-- written by a program of this session, after the kit's print
import Derived.Test.YtjjbondlcjnaiaaPSparseFitsx0
import Derived.Test.YtjjbondlcjnaiaaPSparseFitsx1
import Derived.Test.YtjjbondlcjnaiaaPSparseFitsx2
import Derived.Test.YtjjbondlcjnaiaaPSparseFitsx3
import Derived.Test.YtjjbondlcjnaiaaPSparseFitsx4
import Derived.Test.YtjjbondlcjnaiaaPSparseFitsx5
import Derived.Test.YtjjbondlcjnaiaaPSparseFitsx6
import Derived.Test.YtjjbondlcjnaiaaPSparseFitsx7
import Derived.Test.YtjjbondlcjnaiaaPSparseFitsx8
import Derived.Test.YtjjbondlcjnaiaaPSparseFitsx9
import Derived.Test.YtjjbondlcjnaiaaPSparseFitsx10
import Derived.Test.YtjjbondlcjnaiaaPSparseFitsx11
import Derived.Test.YtjjbondlcjnaiaaPSparseFitsx12
namespace Go.Proofs.Ytjjbondlcjnaiaa.PSparseFits
open Go.RowKit Go.Proofs.YtjjbondlcjnaiaaW.PrintWords Go.Proofs.YtjjbondlcjnaiaaW.PrintLast Go.Proofs.YtjjbondlcjnaiaaW.PrintMore
attribute [local go_sem] max2_int min2_int max_two min_two max_three min_three max_four min_four   -- for this text's walks alone
set_option linter.unusedVariables false
set_option linter.unusedSimpArgs false

end Go.Proofs.Ytjjbondlcjnaiaa.PSparseFits
