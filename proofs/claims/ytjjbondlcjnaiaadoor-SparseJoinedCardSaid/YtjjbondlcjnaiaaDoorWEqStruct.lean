-- words of the kit's print; a program of this session left out what no text of this seat comes to
import Derived.Test.YtjjbondlcjnaiaaDoorWWords
import Derived.Laws.StructEq
namespace Go.Proofs.YtjjbondlcjnaiaaDoorW.PrintWords
open Go.RowKit
section
variable {P:Program} {d:Nat} {xs ys:Array Value} {f:Field} {fs:List Field} {a b:Value} {r s:Bool} {w:World}
end
end Go.Proofs.YtjjbondlcjnaiaaDoorW.PrintWords
