-- words of the kit's print; a program of this session left out what no text of this seat comes to
import Derived.Test.YtjjbondlcjnaiaaDoorWTab
namespace Go.Proofs.YtjjbondlcjnaiaaDoorW.PrintLast
section
variable {P:Program} {ops:Array Oper} {Q:Exit→Act→World→Prop} {md:Region.Mode} {S:World→Prop} {ds:List Nat} {T:Bool×List (List Nat×List Nat)}
end
end Go.Proofs.YtjjbondlcjnaiaaDoorW.PrintLast
