-- words of the kit's print; a program of this session left out what no text of this seat comes to
import Derived.Test.YtjjbondlcjnaiaaDoorWInv
import Derived.Test.YtjjbondlcjnaiaaDoorWFootNe
namespace Go.Proofs.YtjjbondlcjnaiaaDoorW.PrintWords
open Go.RowKit
end Go.Proofs.YtjjbondlcjnaiaaDoorW.PrintWords
namespace Go.Proofs.YtjjbondlcjnaiaaDoorW.PrintLast
section
variable {ops:Array Oper} {a:Act} {o og:Oper} {g:Nat} {t:Tmp} {u:Bool}
end
end Go.Proofs.YtjjbondlcjnaiaaDoorW.PrintLast
