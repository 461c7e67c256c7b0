/-
  No cell of these rows narrows 'for every input' (looked for: loops, veiled, ifaces, maps, wideKeys, modest, calm, conditions, laid).
  DERIVED. THE GIVEN ROWS OF THIS SEAT. 3 by the template 'for every input the law returns true; each argument reads behind the call as it read before'; 0 by the template 'total and deterministic' (their statements: YtjjbondlcjnaiaaTotals.lean).
  GIVEN WITH THE SEED: the statements are not yours to turn. If you find one false, say at which input.
  Laid BY PROGRAM, IN A SANDBOX (cutbox-rows.mjs): the forced cells as the released guide's own fill.sh prints them over the translation d93f47eda709f92e… (all of the seat's roots in one cut). By AI agents, Wed Nov 11 2026. No macro, syntax, notation, axiom, sorry.
-/
import Derived.Test.YtjjbondlcjnaiaaChecked
import GoSem.Claim
import GoSem.ClaimJoined
import GoSem.ClaimMapViews
import Derived.JoinedTies
import Derived.KernelRfl
namespace Go.Proofs.Ytjjbondlcjnaiaa
/- THE CELL 'sum', in the pinned program and in every row, IS THE sha256 OF THE DUMP (.gsa) THAT YtjjbondlcjnaiaaProg.lean LOADS. Nothing in Lean hashes anything: it is a label: what it is worth is what the hold of that sum in a sandbox is worth. -/
noncomputable def Try.pinned : Pinned := { name := "ytjjbondlcjnaiaa", sum := "d93f47eda709f92e71887a3849851264c2d29e0ad925a72bb2a0ea81d956ebd4", checked := Try.checked }
namespace Rows
def none {H : Type} : Left H := { results := [], args := [] }

/-- 'fluxionlaw19.SparseFits': WHATEVER THE INPUT: true; the input reads as it did. -/
def sparseFitsSpec : ChangeSpec := { name := "sparseFits", fn := fun _ => fun
  | [d1, d2, d3] => { results := [.lit (.bool true)], args := [d1, d2, d3] }
  | _ => none }
def sparseFitsRow : OpenClaim := { program := "ytjjbondlcjnaiaa", sum := "d93f47eda709f92e71887a3849851264c2d29e0ad925a72bb2a0ea81d956ebd4", func := "fluxion/fluxionlaw19.SparseFits", spec := "sparseFits", unfollowed := true, recurses := true, apart := false }
def SparseFitsSaid : Prop := sparseFitsRow.holds Try.pinned (OpenSpec.ofChange sparseFitsSpec)

/-- ITS FALSE NEIGHBOUR: 'it returns false'. Refute it at one input. -/
def sparseFitsWrong : ChangeSpec := { name := "sparseFits", fn := fun _ => fun
  | [d1, d2, d3] => { results := [.lit (.bool false)], args := [d1, d2, d3] }
  | _ => none }
def SparseFitsWrongFalsely : Prop := sparseFitsRow.holds Try.pinned (OpenSpec.ofChange sparseFitsWrong)

/-- 'fluxionlaw19.SparseLeasts': WHATEVER THE INPUT: true; the input reads as it did. -/
def sparseLeastsSpec : ChangeSpec := { name := "sparseLeasts", fn := fun _ => fun
  | [d1, d2] => { results := [.lit (.bool true)], args := [d1, d2] }
  | _ => none }
def sparseLeastsRow : OpenClaim := { program := "ytjjbondlcjnaiaa", sum := "d93f47eda709f92e71887a3849851264c2d29e0ad925a72bb2a0ea81d956ebd4", func := "fluxion/fluxionlaw19.SparseLeasts", spec := "sparseLeasts", unfollowed := true, recurses := true, apart := false }
def SparseLeastsSaid : Prop := sparseLeastsRow.holds Try.pinned (OpenSpec.ofChange sparseLeastsSpec)

/-- ITS FALSE NEIGHBOUR: 'it returns false'. Refute it at one input. -/
def sparseLeastsWrong : ChangeSpec := { name := "sparseLeasts", fn := fun _ => fun
  | [d1, d2] => { results := [.lit (.bool false)], args := [d1, d2] }
  | _ => none }
def SparseLeastsWrongFalsely : Prop := sparseLeastsRow.holds Try.pinned (OpenSpec.ofChange sparseLeastsWrong)

/-- 'fluxionlaw19.SparseMany': WHATEVER THE INPUT: true; the input reads as it did. -/
def sparseManySpec : ChangeSpec := { name := "sparseMany", fn := fun _ => fun
  | [d1, d2] => { results := [.lit (.bool true)], args := [d1, d2] }
  | _ => none }
def sparseManyRow : OpenClaim := { program := "ytjjbondlcjnaiaa", sum := "d93f47eda709f92e71887a3849851264c2d29e0ad925a72bb2a0ea81d956ebd4", func := "fluxion/fluxionlaw19.SparseMany", spec := "sparseMany", unfollowed := true, recurses := true, apart := false }
def SparseManySaid : Prop := sparseManyRow.holds Try.pinned (OpenSpec.ofChange sparseManySpec)

/-- ITS FALSE NEIGHBOUR: 'it returns false'. Refute it at one input. -/
def sparseManyWrong : ChangeSpec := { name := "sparseMany", fn := fun _ => fun
  | [d1, d2] => { results := [.lit (.bool false)], args := [d1, d2] }
  | _ => none }
def SparseManyWrongFalsely : Prop := sparseManyRow.holds Try.pinned (OpenSpec.ofChange sparseManyWrong)

/- THE SECOND FORM. 'bulk': how many values and letters a reading holds, each counted each time it is reached (what is shared counts as often as it is met; a slice's spare places count too). A statement '..UptoSaid' is the law's where the arguments, and the package variables that the reading takes, are together of bulk at most 1048576: NARROWER than '..Said'. Prove '..Said' where nothing that the law and all that it calls make is longer than what came in: it says more and counts as full. Else prove '..UptoSaid'. A law counts once. -/
mutual
def uptoBulk {H : Type} : DataW H → Nat
  | .lit (.string bytes) => bytes.length + 1
  | .lit _ => 1
  | .nil => 1
  | .ptr d => uptoBulk d + 1
  | .slice elems spare => uptoBulkAll elems + uptoBulkAll spare + 1
  | .agg parts => uptoBulkAll parts + 1
  | .iface _ d => uptoBulk d + 1
  | .map entries => uptoBulkEntries entries + 1
  | .held _ => 1
def uptoBulkAll {H : Type} : List (DataW H) → Nat
  | [] => 0
  | d :: r => uptoBulk d + uptoBulkAll r
def uptoBulkEntries {H : Type} : List (Lit × DataW H) → Nat
  | [] => 0
  | x :: r => uptoBulkEntry x + uptoBulkEntries r
def uptoBulkEntry {H : Type} : Lit × DataW H → Nat
  | (.string bytes, d) => bytes.length + uptoBulk d + 1
  | (_, d) => uptoBulk d + 1
 end
def uptoSmall : (H : Type) → List (DataW H) → Bool := fun _ ds => decide (uptoBulkAll ds ≤ 1048576)
def OpenSpec.upto (s : _root_.Go.ChangeSpec) : _root_.Go.OpenSpec := { _root_.Go.OpenSpec.ofChange s with cond := some uptoSmall }

/-- 'fluxionlaw19.SparseFits', WHERE WHAT IT READS IS OF BULK AT MOST 1048576: true; the input reads as it did. -/
def sparseFitsUptoRow : OpenClaim := { program := "ytjjbondlcjnaiaa", sum := "d93f47eda709f92e71887a3849851264c2d29e0ad925a72bb2a0ea81d956ebd4", func := "fluxion/fluxionlaw19.SparseFits", spec := "sparseFits", unfollowed := true, recurses := true, apart := false, narrowed := true }
def SparseFitsUptoSaid : Prop := sparseFitsUptoRow.holds Try.pinned (OpenSpec.upto sparseFitsSpec)

/-- 'fluxionlaw19.SparseLeasts', WHERE WHAT IT READS IS OF BULK AT MOST 1048576: true; the input reads as it did. -/
def sparseLeastsUptoRow : OpenClaim := { program := "ytjjbondlcjnaiaa", sum := "d93f47eda709f92e71887a3849851264c2d29e0ad925a72bb2a0ea81d956ebd4", func := "fluxion/fluxionlaw19.SparseLeasts", spec := "sparseLeasts", unfollowed := true, recurses := true, apart := false, narrowed := true }
def SparseLeastsUptoSaid : Prop := sparseLeastsUptoRow.holds Try.pinned (OpenSpec.upto sparseLeastsSpec)

/-- 'fluxionlaw19.SparseMany', WHERE WHAT IT READS IS OF BULK AT MOST 1048576: true; the input reads as it did. -/
def sparseManyUptoRow : OpenClaim := { program := "ytjjbondlcjnaiaa", sum := "d93f47eda709f92e71887a3849851264c2d29e0ad925a72bb2a0ea81d956ebd4", func := "fluxion/fluxionlaw19.SparseMany", spec := "sparseMany", unfollowed := true, recurses := true, apart := false, narrowed := true }
def SparseManyUptoSaid : Prop := sparseManyUptoRow.holds Try.pinned (OpenSpec.upto sparseManySpec)

end Rows
end Go.Proofs.Ytjjbondlcjnaiaa
