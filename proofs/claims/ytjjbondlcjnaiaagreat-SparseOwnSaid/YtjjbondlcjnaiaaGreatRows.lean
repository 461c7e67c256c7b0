/-
  No cell of these rows narrows 'for every input' (looked for: loops, veiled, ifaces, maps, wideKeys, modest, calm, conditions, laid).
  DERIVED. THE GIVEN ROWS OF THIS SEAT. 4 by the template 'for every input the law returns true; each argument reads behind the call as it read before'; 0 by the template 'total and deterministic' (their statements: YtjjbondlcjnaiaaGreatTotals.lean).
  GIVEN WITH THE SEED: the statements are not yours to turn. If you find one false, say at which input.
  Laid BY PROGRAM, IN A SANDBOX (cutbox-rows.mjs): the forced cells as the released guide's own fill.sh prints them over the translation d336a353662daad2… (all of the seat's roots in one cut). By AI agents, Wed Nov 11 2026. No macro, syntax, notation, axiom, sorry.
-/
import Derived.Test.YtjjbondlcjnaiaaGreatChecked
import GoSem.Claim
import GoSem.ClaimJoined
import GoSem.ClaimMapViews
import Derived.JoinedTies
import Derived.KernelRfl
namespace Go.Proofs.YtjjbondlcjnaiaaGreat
/- THE CELL 'sum', in the pinned program and in every row, IS THE sha256 OF THE DUMP (.gsa) THAT YtjjbondlcjnaiaaGreatProg.lean LOADS. Nothing in Lean hashes anything: it is a label: what it is worth is what the hold of that sum in a sandbox is worth. -/
noncomputable def Tryz.pinned : Pinned := { name := "ytjjbondlcjnaiaagreat", sum := "d336a353662daad2c8148313e6e281cebfc2b9d8bc86e9b9201c6e2a79ea1e2e", checked := Tryz.checked }
namespace Rows
def none {H : Type} : Left H := { results := [], args := [] }

/-- 'fluxionlaw19.SparseSpreads': WHATEVER THE INPUT: true; the input reads as it did. -/
def sparseSpreadsSpec : ChangeSpec := { name := "sparseSpreads", fn := fun _ => fun
  | [d1, d2, d3] => { results := [.lit (.bool true)], args := [d1, d2, d3] }
  | _ => none }
def sparseSpreadsRow : OpenClaim := { program := "ytjjbondlcjnaiaagreat", sum := "d336a353662daad2c8148313e6e281cebfc2b9d8bc86e9b9201c6e2a79ea1e2e", func := "fluxion/fluxionlaw19.SparseSpreads", spec := "sparseSpreads", unfollowed := true, recurses := true, apart := false }
def SparseSpreadsSaid : Prop := sparseSpreadsRow.holds Tryz.pinned (OpenSpec.ofChange sparseSpreadsSpec)

/-- ITS FALSE NEIGHBOUR: 'it returns false'. Refute it at one input. -/
def sparseSpreadsWrong : ChangeSpec := { name := "sparseSpreads", fn := fun _ => fun
  | [d1, d2, d3] => { results := [.lit (.bool false)], args := [d1, d2, d3] }
  | _ => none }
def SparseSpreadsWrongFalsely : Prop := sparseSpreadsRow.holds Tryz.pinned (OpenSpec.ofChange sparseSpreadsWrong)

/-- 'fluxionlaw19.SparseSeeds': WHATEVER THE INPUT: true; the input reads as it did. -/
def sparseSeedsSpec : ChangeSpec := { name := "sparseSeeds", fn := fun _ => fun
  | [d1, d2] => { results := [.lit (.bool true)], args := [d1, d2] }
  | _ => none }
def sparseSeedsRow : OpenClaim := { program := "ytjjbondlcjnaiaagreat", sum := "d336a353662daad2c8148313e6e281cebfc2b9d8bc86e9b9201c6e2a79ea1e2e", func := "fluxion/fluxionlaw19.SparseSeeds", spec := "sparseSeeds", unfollowed := true, recurses := true, apart := false }
def SparseSeedsSaid : Prop := sparseSeedsRow.holds Tryz.pinned (OpenSpec.ofChange sparseSeedsSpec)

/-- ITS FALSE NEIGHBOUR: 'it returns false'. Refute it at one input. -/
def sparseSeedsWrong : ChangeSpec := { name := "sparseSeeds", fn := fun _ => fun
  | [d1, d2] => { results := [.lit (.bool false)], args := [d1, d2] }
  | _ => none }
def SparseSeedsWrongFalsely : Prop := sparseSeedsRow.holds Tryz.pinned (OpenSpec.ofChange sparseSeedsWrong)

/-- 'fluxionlaw19.SparseOwn': WHATEVER THE INPUT: true; the input reads as it did. -/
def sparseOwnSpec : ChangeSpec := { name := "sparseOwn", fn := fun _ => fun
  | [d1, d2, d3] => { results := [.lit (.bool true)], args := [d1, d2, d3] }
  | _ => none }
def sparseOwnRow : OpenClaim := { program := "ytjjbondlcjnaiaagreat", sum := "d336a353662daad2c8148313e6e281cebfc2b9d8bc86e9b9201c6e2a79ea1e2e", func := "fluxion/fluxionlaw19.SparseOwn", spec := "sparseOwn", unfollowed := true, recurses := true, apart := false }
def SparseOwnSaid : Prop := sparseOwnRow.holds Tryz.pinned (OpenSpec.ofChange sparseOwnSpec)

/-- ITS FALSE NEIGHBOUR: 'it returns false'. Refute it at one input. -/
def sparseOwnWrong : ChangeSpec := { name := "sparseOwn", fn := fun _ => fun
  | [d1, d2, d3] => { results := [.lit (.bool false)], args := [d1, d2, d3] }
  | _ => none }
def SparseOwnWrongFalsely : Prop := sparseOwnRow.holds Tryz.pinned (OpenSpec.ofChange sparseOwnWrong)

/-- 'fluxionlaw19.SparseTold': WHATEVER THE INPUT: true; the input reads as it did. -/
def sparseToldSpec : ChangeSpec := { name := "sparseTold", fn := fun _ => fun
  | [d1, d2, d3, d4] => { results := [.lit (.bool true)], args := [d1, d2, d3, d4] }
  | _ => none }
def sparseToldRow : OpenClaim := { program := "ytjjbondlcjnaiaagreat", sum := "d336a353662daad2c8148313e6e281cebfc2b9d8bc86e9b9201c6e2a79ea1e2e", func := "fluxion/fluxionlaw19.SparseTold", spec := "sparseTold", unfollowed := true, recurses := true, apart := false }
def SparseToldSaid : Prop := sparseToldRow.holds Tryz.pinned (OpenSpec.ofChange sparseToldSpec)

/-- ITS FALSE NEIGHBOUR: 'it returns false'. Refute it at one input. -/
def sparseToldWrong : ChangeSpec := { name := "sparseTold", fn := fun _ => fun
  | [d1, d2, d3, d4] => { results := [.lit (.bool false)], args := [d1, d2, d3, d4] }
  | _ => none }
def SparseToldWrongFalsely : Prop := sparseToldRow.holds Tryz.pinned (OpenSpec.ofChange sparseToldWrong)

/- THE SECOND FORM. 'bulk': how many values and letters a reading holds, each counted each time it is reached (what is shared counts as often as it is met; a slice's spare places count too). A statement '..UptoSaid' is the law's where the arguments, and the package variables that the reading takes, are together of bulk at most 1048576: NARROWER than '..Said'. Prove '..Said' where nothing that the law and all that it calls make is longer than what came in: it says more and counts as full. Else prove '..UptoSaid'. A law counts once. -/
mutual
def uptoBulk {H : Type} : DataW H → Nat
  | .lit (.string bytes) => bytes.length + 1
  | .lit _ => 1
  | .nil => 1
  | .ptr d => uptoBulk d + 1
  | .slice elems spare => uptoBulkAll elems + uptoBulkAll spare + 1
  | .agg parts => uptoBulkAll parts + 1
  | .iface _ d => uptoBulk d + 1
  | .map entries => uptoBulkEntries entries + 1
  | .held _ => 1
def uptoBulkAll {H : Type} : List (DataW H) → Nat
  | [] => 0
  | d :: r => uptoBulk d + uptoBulkAll r
def uptoBulkEntries {H : Type} : List (Lit × DataW H) → Nat
  | [] => 0
  | x :: r => uptoBulkEntry x + uptoBulkEntries r
def uptoBulkEntry {H : Type} : Lit × DataW H → Nat
  | (.string bytes, d) => bytes.length + uptoBulk d + 1
  | (_, d) => uptoBulk d + 1
 end
def uptoSmall : (H : Type) → List (DataW H) → Bool := fun _ ds => decide (uptoBulkAll ds ≤ 1048576)
def OpenSpec.upto (s : _root_.Go.ChangeSpec) : _root_.Go.OpenSpec := { _root_.Go.OpenSpec.ofChange s with cond := some uptoSmall }

/-- 'fluxionlaw19.SparseSpreads', WHERE WHAT IT READS IS OF BULK AT MOST 1048576: true; the input reads as it did. -/
def sparseSpreadsUptoRow : OpenClaim := { program := "ytjjbondlcjnaiaagreat", sum := "d336a353662daad2c8148313e6e281cebfc2b9d8bc86e9b9201c6e2a79ea1e2e", func := "fluxion/fluxionlaw19.SparseSpreads", spec := "sparseSpreads", unfollowed := true, recurses := true, apart := false, narrowed := true }
def SparseSpreadsUptoSaid : Prop := sparseSpreadsUptoRow.holds Tryz.pinned (OpenSpec.upto sparseSpreadsSpec)

/-- 'fluxionlaw19.SparseSeeds', WHERE WHAT IT READS IS OF BULK AT MOST 1048576: true; the input reads as it did. -/
def sparseSeedsUptoRow : OpenClaim := { program := "ytjjbondlcjnaiaagreat", sum := "d336a353662daad2c8148313e6e281cebfc2b9d8bc86e9b9201c6e2a79ea1e2e", func := "fluxion/fluxionlaw19.SparseSeeds", spec := "sparseSeeds", unfollowed := true, recurses := true, apart := false, narrowed := true }
def SparseSeedsUptoSaid : Prop := sparseSeedsUptoRow.holds Tryz.pinned (OpenSpec.upto sparseSeedsSpec)

/-- 'fluxionlaw19.SparseOwn', WHERE WHAT IT READS IS OF BULK AT MOST 1048576: true; the input reads as it did. -/
def sparseOwnUptoRow : OpenClaim := { program := "ytjjbondlcjnaiaagreat", sum := "d336a353662daad2c8148313e6e281cebfc2b9d8bc86e9b9201c6e2a79ea1e2e", func := "fluxion/fluxionlaw19.SparseOwn", spec := "sparseOwn", unfollowed := true, recurses := true, apart := false, narrowed := true }
def SparseOwnUptoSaid : Prop := sparseOwnUptoRow.holds Tryz.pinned (OpenSpec.upto sparseOwnSpec)

/-- 'fluxionlaw19.SparseTold', WHERE WHAT IT READS IS OF BULK AT MOST 1048576: true; the input reads as it did. -/
def sparseToldUptoRow : OpenClaim := { program := "ytjjbondlcjnaiaagreat", sum := "d336a353662daad2c8148313e6e281cebfc2b9d8bc86e9b9201c6e2a79ea1e2e", func := "fluxion/fluxionlaw19.SparseTold", spec := "sparseTold", unfollowed := true, recurses := true, apart := false, narrowed := true }
def SparseToldUptoSaid : Prop := sparseToldUptoRow.holds Tryz.pinned (OpenSpec.upto sparseToldSpec)

end Rows
end Go.Proofs.YtjjbondlcjnaiaaGreat
