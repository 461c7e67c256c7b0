/-
  NARROWER THAN 'FOR EVERY INPUT', by the rows' own cells (each row's printed sentence says how): SparsePatterns: laid · SparseJoined: laid.
  DERIVED. THE GIVEN ROWS OF THIS SEAT. 2 by the template 'for every input the law returns true; each argument reads behind the call as it read before'; 0 by the template 'total and deterministic' (their statements: YtjjbondlcjnaiaaDoorTotals.lean).
  GIVEN WITH THE SEED: the statements are not yours to turn. If you find one false, say at which input.
  Laid BY PROGRAM, IN A SANDBOX (cutbox-rows.mjs): the forced cells as the released guide's own fill.sh prints them over the translation 9564664f70cd9188… (all of the seat's roots in one cut). By AI agents, Wed Nov 11 2026. No macro, syntax, notation, axiom, sorry.
-/
import Derived.Test.YtjjbondlcjnaiaaDoorChecked
import GoSem.Claim
import GoSem.ClaimJoined
import GoSem.ClaimMapViews
import Derived.JoinedTies
import Derived.KernelRfl
namespace Go.Proofs.YtjjbondlcjnaiaaDoor
/- THE CELL 'sum', in the pinned program and in every row, IS THE sha256 OF THE DUMP (.gsa) THAT YtjjbondlcjnaiaaDoorProg.lean LOADS. Nothing in Lean hashes anything: it is a label: what it is worth is what the hold of that sum in a sandbox is worth. -/
noncomputable def Tryd.pinned : Pinned := { name := "ytjjbondlcjnaiaadoor", sum := "9564664f70cd9188a33b58f4c8513b5408a9c551f7d72b33811aa68d4d4e153b", checked := Tryd.checked }
namespace Rows
def none {H : Type} : Left H := { results := [], args := [] }

/- WHAT THE LISTED PACKAGE-LEVEL VARIABLES READ AS WHEN THE CALL BEGINS. Each datum BY PROGRAM (the guide's laid-datum.mjs) off the statement by which the dump's own 'gosem.cut.vars' lays the variable. In a bare row this is a premise. The card (YtjjbondlcjnaiaaDoorCards.lean) ties it to the program's text. -/
def laid_fluxion_trace_has {H : Type} : DataW H := .agg [.agg [.lit (.bool false), .lit (.bool false), .lit (.bool false)], .agg [.lit (.bool false), .lit (.bool false), .lit (.bool false)], .agg [.lit (.bool false), .lit (.bool false), .lit (.bool true)], .agg [.lit (.bool true), .lit (.bool true), .lit (.bool false)], .agg [.lit (.bool true), .lit (.bool true), .lit (.bool false)], .agg [.lit (.bool true), .lit (.bool true), .lit (.bool false)], .agg [.lit (.bool true), .lit (.bool true), .lit (.bool false)], .agg [.lit (.bool true), .lit (.bool false), .lit (.bool false)]]

/-- 'fluxionlaw19.SparsePatterns': WHATEVER THE INPUT: true; the input reads as it did. -/
def sparsePatternsSpec : ChangeSpec := { name := "sparsePatterns", fn := fun _ => fun
  | [d] => { results := [.lit (.bool true)], args := [d] }
  | _ => none }
def sparsePatternsRow : OpenClaim := { program := "ytjjbondlcjnaiaadoor", sum := "9564664f70cd9188a33b58f4c8513b5408a9c551f7d72b33811aa68d4d4e153b", func := "fluxion/fluxionlaw19.SparsePatterns", spec := "sparsePatterns", unfollowed := true, recurses := true, named := ["fluxion/trace.has"], apart := false, laid := [("fluxion/trace.has", laid_fluxion_trace_has)] }
def SparsePatternsSaid : Prop := sparsePatternsRow.holds Tryd.pinned (OpenSpec.ofChange sparsePatternsSpec)

/-- ITS FALSE NEIGHBOUR: 'it returns false'. Refute it at one input. -/
def sparsePatternsWrong : ChangeSpec := { name := "sparsePatterns", fn := fun _ => fun
  | [d] => { results := [.lit (.bool false)], args := [d] }
  | _ => none }
def SparsePatternsWrongFalsely : Prop := sparsePatternsRow.holds Tryd.pinned (OpenSpec.ofChange sparsePatternsWrong)

/-- 'fluxionlaw19.SparseJoined': WHATEVER THE INPUT: true; the input reads as it did. -/
def sparseJoinedSpec : ChangeSpec := { name := "sparseJoined", fn := fun _ => fun
  | [d1, d2] => { results := [.lit (.bool true)], args := [d1, d2] }
  | _ => none }
def sparseJoinedRow : OpenClaim := { program := "ytjjbondlcjnaiaadoor", sum := "9564664f70cd9188a33b58f4c8513b5408a9c551f7d72b33811aa68d4d4e153b", func := "fluxion/fluxionlaw19.SparseJoined", spec := "sparseJoined", unfollowed := true, recurses := true, named := ["fluxion/trace.has"], apart := false, laid := [("fluxion/trace.has", laid_fluxion_trace_has)] }
def SparseJoinedSaid : Prop := sparseJoinedRow.holds Tryd.pinned (OpenSpec.ofChange sparseJoinedSpec)

/-- ITS FALSE NEIGHBOUR: 'it returns false'. Refute it at one input. -/
def sparseJoinedWrong : ChangeSpec := { name := "sparseJoined", fn := fun _ => fun
  | [d1, d2] => { results := [.lit (.bool false)], args := [d1, d2] }
  | _ => none }
def SparseJoinedWrongFalsely : Prop := sparseJoinedRow.holds Tryd.pinned (OpenSpec.ofChange sparseJoinedWrong)

/- THE SECOND FORM. 'bulk': how many values and letters a reading holds, each counted each time it is reached (what is shared counts as often as it is met; a slice's spare places count too). A statement '..UptoSaid' is the law's where the arguments, and the package variables that the reading takes, are together of bulk at most 1048576: NARROWER than '..Said'. Prove '..Said' where nothing that the law and all that it calls make is longer than what came in: it says more and counts as full. Else prove '..UptoSaid'. A law counts once. -/
mutual
def uptoBulk {H : Type} : DataW H → Nat
  | .lit (.string bytes) => bytes.length + 1
  | .lit _ => 1
  | .nil => 1
  | .ptr d => uptoBulk d + 1
  | .slice elems spare => uptoBulkAll elems + uptoBulkAll spare + 1
  | .agg parts => uptoBulkAll parts + 1
  | .iface _ d => uptoBulk d + 1
  | .map entries => uptoBulkEntries entries + 1
  | .held _ => 1
def uptoBulkAll {H : Type} : List (DataW H) → Nat
  | [] => 0
  | d :: r => uptoBulk d + uptoBulkAll r
def uptoBulkEntries {H : Type} : List (Lit × DataW H) → Nat
  | [] => 0
  | x :: r => uptoBulkEntry x + uptoBulkEntries r
def uptoBulkEntry {H : Type} : Lit × DataW H → Nat
  | (.string bytes, d) => bytes.length + uptoBulk d + 1
  | (_, d) => uptoBulk d + 1
 end
def uptoSmall : (H : Type) → List (DataW H) → Bool := fun _ ds => decide (uptoBulkAll ds ≤ 1048576)
def OpenSpec.upto (s : _root_.Go.ChangeSpec) : _root_.Go.OpenSpec := { _root_.Go.OpenSpec.ofChange s with cond := some uptoSmall }

/-- 'fluxionlaw19.SparsePatterns', WHERE WHAT IT READS IS OF BULK AT MOST 1048576: true; the input reads as it did. -/
def sparsePatternsUptoRow : OpenClaim := { program := "ytjjbondlcjnaiaadoor", sum := "9564664f70cd9188a33b58f4c8513b5408a9c551f7d72b33811aa68d4d4e153b", func := "fluxion/fluxionlaw19.SparsePatterns", spec := "sparsePatterns", unfollowed := true, recurses := true, named := ["fluxion/trace.has"], apart := false, laid := [("fluxion/trace.has", laid_fluxion_trace_has)], narrowed := true }
def SparsePatternsUptoSaid : Prop := sparsePatternsUptoRow.holds Tryd.pinned (OpenSpec.upto sparsePatternsSpec)

/-- 'fluxionlaw19.SparseJoined', WHERE WHAT IT READS IS OF BULK AT MOST 1048576: true; the input reads as it did. -/
def sparseJoinedUptoRow : OpenClaim := { program := "ytjjbondlcjnaiaadoor", sum := "9564664f70cd9188a33b58f4c8513b5408a9c551f7d72b33811aa68d4d4e153b", func := "fluxion/fluxionlaw19.SparseJoined", spec := "sparseJoined", unfollowed := true, recurses := true, named := ["fluxion/trace.has"], apart := false, laid := [("fluxion/trace.has", laid_fluxion_trace_has)], narrowed := true }
def SparseJoinedUptoSaid : Prop := sparseJoinedUptoRow.holds Tryd.pinned (OpenSpec.upto sparseJoinedSpec)

end Rows
end Go.Proofs.YtjjbondlcjnaiaaDoor
