-- words of the kit's print; a program of this session left out what no text of this seat comes to
import Derived.Test.YtjjbondlcjnaiaaGreatWInv
import Derived.Test.YtjjbondlcjnaiaaGreatWFootNe
namespace Go.Proofs.YtjjbondlcjnaiaaGreatW.PrintWords
open Go.RowKit
end Go.Proofs.YtjjbondlcjnaiaaGreatW.PrintWords
namespace Go.Proofs.YtjjbondlcjnaiaaGreatW.PrintLast
section
variable {ops:Array Oper} {a:Act} {o og:Oper} {g:Nat} {t:Tmp} {u:Bool}
end
end Go.Proofs.YtjjbondlcjnaiaaGreatW.PrintLast
