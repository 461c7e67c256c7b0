-- written by a program of this session, after the kit's print
import Derived.Test.YtdiflpfkoigmaaaGreatDoorPTapeCheapx24
namespace Go.Proofs.YtdiflpfkoigmaaaGreatDoor.PTapeCheap
open Go.RowKit Go.Proofs.YtdiflpfkoigmaaaGreatDoorW
set_option linter.unusedVariables false
set_option linter.unusedSimpArgs false
end Go.Proofs.YtdiflpfkoigmaaaGreatDoor.PTapeCheap
