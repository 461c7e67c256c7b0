-- words of the kit's print; a program of this session left out what no text of this seat comes to
import Derived.Test.YtjjbondlcjnaiaaDoorWN
namespace Go.Proofs.YtjjbondlcjnaiaaDoorW.PrintWords
open Go.RowKit
namespace Kd
section
variable {α:Type} {d:Kd α} {W:World} {g n:Nat} {S ok:Nat→Prop} {A:Option Addr} {ad:Addr} {xs:List α}
end
end Kd
end Go.Proofs.YtjjbondlcjnaiaaDoorW.PrintWords
