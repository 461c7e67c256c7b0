-- words of the kit's print; a program of this session left out what no text of this seat comes to
import Derived.Test.YtjjbondlcjnaiaaWInv
import Derived.Test.YtjjbondlcjnaiaaWFootNe
namespace Go.Proofs.YtjjbondlcjnaiaaW.PrintWords
open Go.RowKit
end Go.Proofs.YtjjbondlcjnaiaaW.PrintWords
namespace Go.Proofs.YtjjbondlcjnaiaaW.PrintLast
section
variable {ops : Array Oper} {a : Act} {o og : Oper} {g : Nat} {t : Tmp} {u : Bool}
end
end Go.Proofs.YtjjbondlcjnaiaaW.PrintLast
