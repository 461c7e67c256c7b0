/-
  NARROWER THAN 'FOR EVERY INPUT', by the rows' own cells (each row's printed sentence says how): TapeGradients: laid · TapeJoined: laid · TapeReverses: laid · TapeBoth: laid · TapeCheap: laid · TapeThere: laid · TapeBends: laid · TapeSecond: laid.
  DERIVED. THE GIVEN ROWS OF THIS SEAT. 8 by the template 'for every input the law returns true; each argument reads behind the call as it read before'; 0 by the template 'total and deterministic' (their statements: YtdiflpfkoigmaaaGreatDoorTotals.lean).
  GIVEN WITH THE SEED: the statements are not yours to turn. If you find one false, say at which input.
  Laid BY PROGRAM, IN A SANDBOX (cutbox-rows.mjs): the forced cells as the released guide's own fill.sh prints them over the translation 6944051c2fd1681c… (all of the seat's roots in one cut). By AI agents, Wed Nov 11 2026. No macro, syntax, notation, axiom, sorry.
-/
import Derived.Test.YtdiflpfkoigmaaaGreatDoorChecked
import GoSem.Claim
import GoSem.ClaimJoined
import GoSem.ClaimMapViews
import Derived.JoinedTies
import Derived.KernelRfl
namespace Go.Proofs.YtdiflpfkoigmaaaGreatDoor
/- THE CELL 'sum', in the pinned program and in every row, IS THE sha256 OF THE DUMP (.gsa) THAT YtdiflpfkoigmaaaGreatDoorProg.lean LOADS. Nothing in Lean hashes anything: it is a label: what it is worth is what the hold of that sum in a sandbox is worth. -/
noncomputable def Tryz.pinned : Pinned := { name := "ytdiflpfkoigmaaagreatdoor", sum := "6944051c2fd1681c24b17696849b9f77b054e29070c5a220d09fc05122b2df85", checked := Tryz.checked }
namespace Rows
def none {H : Type} : Left H := { results := [], args := [] }

/- WHAT THE LISTED PACKAGE-LEVEL VARIABLES READ AS WHEN THE CALL BEGINS. Each datum BY PROGRAM (the guide's laid-datum.mjs) off the statement by which the dump's own 'gosem.cut.vars' lays the variable. In a bare row this is a premise. The card (YtdiflpfkoigmaaaGreatDoorCards.lean) ties it to the program's text. -/
def laid_fluxion_trace_has {H : Type} : DataW H := .agg [.agg [.lit (.bool false), .lit (.bool false), .lit (.bool false)], .agg [.lit (.bool false), .lit (.bool false), .lit (.bool false)], .agg [.lit (.bool false), .lit (.bool false), .lit (.bool true)], .agg [.lit (.bool true), .lit (.bool true), .lit (.bool false)], .agg [.lit (.bool true), .lit (.bool true), .lit (.bool false)], .agg [.lit (.bool true), .lit (.bool true), .lit (.bool false)], .agg [.lit (.bool true), .lit (.bool true), .lit (.bool false)], .agg [.lit (.bool true), .lit (.bool false), .lit (.bool false)]]

/-- 'fluxionlaw17.TapeGradients': WHATEVER THE INPUT: true; the input reads as it did. -/
def tapeGradientsSpec : ChangeSpec := { name := "tapeGradients", fn := fun _ => fun
  | [d1, d2, d3] => { results := [.lit (.bool true)], args := [d1, d2, d3] }
  | _ => none }
def tapeGradientsRow : OpenClaim := { program := "ytdiflpfkoigmaaagreatdoor", sum := "6944051c2fd1681c24b17696849b9f77b054e29070c5a220d09fc05122b2df85", func := "fluxion/fluxionlaw17.TapeGradients", spec := "tapeGradients", unfollowed := true, recurses := true, named := ["fluxion/trace.has"], apart := false, laid := [("fluxion/trace.has", laid_fluxion_trace_has)] }
def TapeGradientsSaid : Prop := tapeGradientsRow.holds Tryz.pinned (OpenSpec.ofChange tapeGradientsSpec)

/-- ITS FALSE NEIGHBOUR: 'it returns false'. Refute it at one input. -/
def tapeGradientsWrong : ChangeSpec := { name := "tapeGradients", fn := fun _ => fun
  | [d1, d2, d3] => { results := [.lit (.bool false)], args := [d1, d2, d3] }
  | _ => none }
def TapeGradientsWrongFalsely : Prop := tapeGradientsRow.holds Tryz.pinned (OpenSpec.ofChange tapeGradientsWrong)

/-- 'fluxionlaw17.TapeJoined': WHATEVER THE INPUT: true; the input reads as it did. -/
def tapeJoinedSpec : ChangeSpec := { name := "tapeJoined", fn := fun _ => fun
  | [d1, d2, d3, d4] => { results := [.lit (.bool true)], args := [d1, d2, d3, d4] }
  | _ => none }
def tapeJoinedRow : OpenClaim := { program := "ytdiflpfkoigmaaagreatdoor", sum := "6944051c2fd1681c24b17696849b9f77b054e29070c5a220d09fc05122b2df85", func := "fluxion/fluxionlaw17.TapeJoined", spec := "tapeJoined", unfollowed := true, recurses := true, named := ["fluxion/trace.has"], apart := false, laid := [("fluxion/trace.has", laid_fluxion_trace_has)] }
def TapeJoinedSaid : Prop := tapeJoinedRow.holds Tryz.pinned (OpenSpec.ofChange tapeJoinedSpec)

/-- ITS FALSE NEIGHBOUR: 'it returns false'. Refute it at one input. -/
def tapeJoinedWrong : ChangeSpec := { name := "tapeJoined", fn := fun _ => fun
  | [d1, d2, d3, d4] => { results := [.lit (.bool false)], args := [d1, d2, d3, d4] }
  | _ => none }
def TapeJoinedWrongFalsely : Prop := tapeJoinedRow.holds Tryz.pinned (OpenSpec.ofChange tapeJoinedWrong)

/-- 'fluxionlaw17.TapeReverses': WHATEVER THE INPUT: true; the input reads as it did. -/
def tapeReversesSpec : ChangeSpec := { name := "tapeReverses", fn := fun _ => fun
  | [d1, d2, d3, d4] => { results := [.lit (.bool true)], args := [d1, d2, d3, d4] }
  | _ => none }
def tapeReversesRow : OpenClaim := { program := "ytdiflpfkoigmaaagreatdoor", sum := "6944051c2fd1681c24b17696849b9f77b054e29070c5a220d09fc05122b2df85", func := "fluxion/fluxionlaw17.TapeReverses", spec := "tapeReverses", unfollowed := true, recurses := true, named := ["fluxion/trace.has"], apart := false, laid := [("fluxion/trace.has", laid_fluxion_trace_has)] }
def TapeReversesSaid : Prop := tapeReversesRow.holds Tryz.pinned (OpenSpec.ofChange tapeReversesSpec)

/-- ITS FALSE NEIGHBOUR: 'it returns false'. Refute it at one input. -/
def tapeReversesWrong : ChangeSpec := { name := "tapeReverses", fn := fun _ => fun
  | [d1, d2, d3, d4] => { results := [.lit (.bool false)], args := [d1, d2, d3, d4] }
  | _ => none }
def TapeReversesWrongFalsely : Prop := tapeReversesRow.holds Tryz.pinned (OpenSpec.ofChange tapeReversesWrong)

/-- 'fluxionlaw17.TapeBoth': WHATEVER THE INPUT: true; the input reads as it did. -/
def tapeBothSpec : ChangeSpec := { name := "tapeBoth", fn := fun _ => fun
  | [d1, d2, d3, d4] => { results := [.lit (.bool true)], args := [d1, d2, d3, d4] }
  | _ => none }
def tapeBothRow : OpenClaim := { program := "ytdiflpfkoigmaaagreatdoor", sum := "6944051c2fd1681c24b17696849b9f77b054e29070c5a220d09fc05122b2df85", func := "fluxion/fluxionlaw17.TapeBoth", spec := "tapeBoth", unfollowed := true, recurses := true, named := ["fluxion/trace.has"], apart := false, laid := [("fluxion/trace.has", laid_fluxion_trace_has)] }
def TapeBothSaid : Prop := tapeBothRow.holds Tryz.pinned (OpenSpec.ofChange tapeBothSpec)

/-- ITS FALSE NEIGHBOUR: 'it returns false'. Refute it at one input. -/
def tapeBothWrong : ChangeSpec := { name := "tapeBoth", fn := fun _ => fun
  | [d1, d2, d3, d4] => { results := [.lit (.bool false)], args := [d1, d2, d3, d4] }
  | _ => none }
def TapeBothWrongFalsely : Prop := tapeBothRow.holds Tryz.pinned (OpenSpec.ofChange tapeBothWrong)

/-- 'fluxionlaw17.TapeCheap': WHATEVER THE INPUT: true; the input reads as it did. -/
def tapeCheapSpec : ChangeSpec := { name := "tapeCheap", fn := fun _ => fun
  | [d] => { results := [.lit (.bool true)], args := [d] }
  | _ => none }
def tapeCheapRow : OpenClaim := { program := "ytdiflpfkoigmaaagreatdoor", sum := "6944051c2fd1681c24b17696849b9f77b054e29070c5a220d09fc05122b2df85", func := "fluxion/fluxionlaw17.TapeCheap", spec := "tapeCheap", unfollowed := true, recurses := true, named := ["fluxion/trace.has"], apart := false, laid := [("fluxion/trace.has", laid_fluxion_trace_has)] }
def TapeCheapSaid : Prop := tapeCheapRow.holds Tryz.pinned (OpenSpec.ofChange tapeCheapSpec)

/-- ITS FALSE NEIGHBOUR: 'it returns false'. Refute it at one input. -/
def tapeCheapWrong : ChangeSpec := { name := "tapeCheap", fn := fun _ => fun
  | [d] => { results := [.lit (.bool false)], args := [d] }
  | _ => none }
def TapeCheapWrongFalsely : Prop := tapeCheapRow.holds Tryz.pinned (OpenSpec.ofChange tapeCheapWrong)

/-- 'fluxionlaw17.TapeThere': WHATEVER THE INPUT: true; the input reads as it did. -/
def tapeThereSpec : ChangeSpec := { name := "tapeThere", fn := fun _ => fun
  | [d1, d2, d3, d4] => { results := [.lit (.bool true)], args := [d1, d2, d3, d4] }
  | _ => none }
def tapeThereRow : OpenClaim := { program := "ytdiflpfkoigmaaagreatdoor", sum := "6944051c2fd1681c24b17696849b9f77b054e29070c5a220d09fc05122b2df85", func := "fluxion/fluxionlaw17.TapeThere", spec := "tapeThere", unfollowed := true, recurses := true, named := ["fluxion/trace.has"], apart := false, laid := [("fluxion/trace.has", laid_fluxion_trace_has)] }
def TapeThereSaid : Prop := tapeThereRow.holds Tryz.pinned (OpenSpec.ofChange tapeThereSpec)

/-- ITS FALSE NEIGHBOUR: 'it returns false'. Refute it at one input. -/
def tapeThereWrong : ChangeSpec := { name := "tapeThere", fn := fun _ => fun
  | [d1, d2, d3, d4] => { results := [.lit (.bool false)], args := [d1, d2, d3, d4] }
  | _ => none }
def TapeThereWrongFalsely : Prop := tapeThereRow.holds Tryz.pinned (OpenSpec.ofChange tapeThereWrong)

/-- 'fluxionlaw17.TapeBends': WHATEVER THE INPUT: true; the input reads as it did. -/
def tapeBendsSpec : ChangeSpec := { name := "tapeBends", fn := fun _ => fun
  | [d1, d2, d3, d4] => { results := [.lit (.bool true)], args := [d1, d2, d3, d4] }
  | _ => none }
def tapeBendsRow : OpenClaim := { program := "ytdiflpfkoigmaaagreatdoor", sum := "6944051c2fd1681c24b17696849b9f77b054e29070c5a220d09fc05122b2df85", func := "fluxion/fluxionlaw17.TapeBends", spec := "tapeBends", unfollowed := true, recurses := true, named := ["fluxion/trace.has"], apart := false, laid := [("fluxion/trace.has", laid_fluxion_trace_has)] }
def TapeBendsSaid : Prop := tapeBendsRow.holds Tryz.pinned (OpenSpec.ofChange tapeBendsSpec)

/-- ITS FALSE NEIGHBOUR: 'it returns false'. Refute it at one input. -/
def tapeBendsWrong : ChangeSpec := { name := "tapeBends", fn := fun _ => fun
  | [d1, d2, d3, d4] => { results := [.lit (.bool false)], args := [d1, d2, d3, d4] }
  | _ => none }
def TapeBendsWrongFalsely : Prop := tapeBendsRow.holds Tryz.pinned (OpenSpec.ofChange tapeBendsWrong)

/-- 'fluxionlaw17.TapeSecond': WHATEVER THE INPUT: true; the input reads as it did. -/
def tapeSecondSpec : ChangeSpec := { name := "tapeSecond", fn := fun _ => fun
  | [d1, d2, d3] => { results := [.lit (.bool true)], args := [d1, d2, d3] }
  | _ => none }
def tapeSecondRow : OpenClaim := { program := "ytdiflpfkoigmaaagreatdoor", sum := "6944051c2fd1681c24b17696849b9f77b054e29070c5a220d09fc05122b2df85", func := "fluxion/fluxionlaw17.TapeSecond", spec := "tapeSecond", unfollowed := true, recurses := true, named := ["fluxion/trace.has"], apart := false, laid := [("fluxion/trace.has", laid_fluxion_trace_has)] }
def TapeSecondSaid : Prop := tapeSecondRow.holds Tryz.pinned (OpenSpec.ofChange tapeSecondSpec)

/-- ITS FALSE NEIGHBOUR: 'it returns false'. Refute it at one input. -/
def tapeSecondWrong : ChangeSpec := { name := "tapeSecond", fn := fun _ => fun
  | [d1, d2, d3] => { results := [.lit (.bool false)], args := [d1, d2, d3] }
  | _ => none }
def TapeSecondWrongFalsely : Prop := tapeSecondRow.holds Tryz.pinned (OpenSpec.ofChange tapeSecondWrong)

/- THE SECOND FORM. 'bulk': how many values and letters a reading holds, each counted each time it is reached (what is shared counts as often as it is met; a slice's spare places count too). A statement '..UptoSaid' is the law's where the arguments, and the package variables that the reading takes, are together of bulk at most 1048576: NARROWER than '..Said'. Prove '..Said' where nothing that the law and all that it calls make is longer than what came in: it says more and counts as full. Else prove '..UptoSaid'. A law counts once. -/
mutual
def uptoBulk {H : Type} : DataW H → Nat
  | .lit (.string bytes) => bytes.length + 1
  | .lit _ => 1
  | .nil => 1
  | .ptr d => uptoBulk d + 1
  | .slice elems spare => uptoBulkAll elems + uptoBulkAll spare + 1
  | .agg parts => uptoBulkAll parts + 1
  | .iface _ d => uptoBulk d + 1
  | .map entries => uptoBulkEntries entries + 1
  | .held _ => 1
def uptoBulkAll {H : Type} : List (DataW H) → Nat
  | [] => 0
  | d :: r => uptoBulk d + uptoBulkAll r
def uptoBulkEntries {H : Type} : List (Lit × DataW H) → Nat
  | [] => 0
  | x :: r => uptoBulkEntry x + uptoBulkEntries r
def uptoBulkEntry {H : Type} : Lit × DataW H → Nat
  | (.string bytes, d) => bytes.length + uptoBulk d + 1
  | (_, d) => uptoBulk d + 1
 end
def uptoSmall : (H : Type) → List (DataW H) → Bool := fun _ ds => decide (uptoBulkAll ds ≤ 1048576)
def OpenSpec.upto (s : _root_.Go.ChangeSpec) : _root_.Go.OpenSpec := { _root_.Go.OpenSpec.ofChange s with cond := some uptoSmall }

/-- 'fluxionlaw17.TapeGradients', WHERE WHAT IT READS IS OF BULK AT MOST 1048576: true; the input reads as it did. -/
def tapeGradientsUptoRow : OpenClaim := { program := "ytdiflpfkoigmaaagreatdoor", sum := "6944051c2fd1681c24b17696849b9f77b054e29070c5a220d09fc05122b2df85", func := "fluxion/fluxionlaw17.TapeGradients", spec := "tapeGradients", unfollowed := true, recurses := true, named := ["fluxion/trace.has"], apart := false, laid := [("fluxion/trace.has", laid_fluxion_trace_has)], narrowed := true }
def TapeGradientsUptoSaid : Prop := tapeGradientsUptoRow.holds Tryz.pinned (OpenSpec.upto tapeGradientsSpec)

/-- 'fluxionlaw17.TapeJoined', WHERE WHAT IT READS IS OF BULK AT MOST 1048576: true; the input reads as it did. -/
def tapeJoinedUptoRow : OpenClaim := { program := "ytdiflpfkoigmaaagreatdoor", sum := "6944051c2fd1681c24b17696849b9f77b054e29070c5a220d09fc05122b2df85", func := "fluxion/fluxionlaw17.TapeJoined", spec := "tapeJoined", unfollowed := true, recurses := true, named := ["fluxion/trace.has"], apart := false, laid := [("fluxion/trace.has", laid_fluxion_trace_has)], narrowed := true }
def TapeJoinedUptoSaid : Prop := tapeJoinedUptoRow.holds Tryz.pinned (OpenSpec.upto tapeJoinedSpec)

/-- 'fluxionlaw17.TapeReverses', WHERE WHAT IT READS IS OF BULK AT MOST 1048576: true; the input reads as it did. -/
def tapeReversesUptoRow : OpenClaim := { program := "ytdiflpfkoigmaaagreatdoor", sum := "6944051c2fd1681c24b17696849b9f77b054e29070c5a220d09fc05122b2df85", func := "fluxion/fluxionlaw17.TapeReverses", spec := "tapeReverses", unfollowed := true, recurses := true, named := ["fluxion/trace.has"], apart := false, laid := [("fluxion/trace.has", laid_fluxion_trace_has)], narrowed := true }
def TapeReversesUptoSaid : Prop := tapeReversesUptoRow.holds Tryz.pinned (OpenSpec.upto tapeReversesSpec)

/-- 'fluxionlaw17.TapeBoth', WHERE WHAT IT READS IS OF BULK AT MOST 1048576: true; the input reads as it did. -/
def tapeBothUptoRow : OpenClaim := { program := "ytdiflpfkoigmaaagreatdoor", sum := "6944051c2fd1681c24b17696849b9f77b054e29070c5a220d09fc05122b2df85", func := "fluxion/fluxionlaw17.TapeBoth", spec := "tapeBoth", unfollowed := true, recurses := true, named := ["fluxion/trace.has"], apart := false, laid := [("fluxion/trace.has", laid_fluxion_trace_has)], narrowed := true }
def TapeBothUptoSaid : Prop := tapeBothUptoRow.holds Tryz.pinned (OpenSpec.upto tapeBothSpec)

/-- 'fluxionlaw17.TapeCheap', WHERE WHAT IT READS IS OF BULK AT MOST 1048576: true; the input reads as it did. -/
def tapeCheapUptoRow : OpenClaim := { program := "ytdiflpfkoigmaaagreatdoor", sum := "6944051c2fd1681c24b17696849b9f77b054e29070c5a220d09fc05122b2df85", func := "fluxion/fluxionlaw17.TapeCheap", spec := "tapeCheap", unfollowed := true, recurses := true, named := ["fluxion/trace.has"], apart := false, laid := [("fluxion/trace.has", laid_fluxion_trace_has)], narrowed := true }
def TapeCheapUptoSaid : Prop := tapeCheapUptoRow.holds Tryz.pinned (OpenSpec.upto tapeCheapSpec)

/-- 'fluxionlaw17.TapeThere', WHERE WHAT IT READS IS OF BULK AT MOST 1048576: true; the input reads as it did. -/
def tapeThereUptoRow : OpenClaim := { program := "ytdiflpfkoigmaaagreatdoor", sum := "6944051c2fd1681c24b17696849b9f77b054e29070c5a220d09fc05122b2df85", func := "fluxion/fluxionlaw17.TapeThere", spec := "tapeThere", unfollowed := true, recurses := true, named := ["fluxion/trace.has"], apart := false, laid := [("fluxion/trace.has", laid_fluxion_trace_has)], narrowed := true }
def TapeThereUptoSaid : Prop := tapeThereUptoRow.holds Tryz.pinned (OpenSpec.upto tapeThereSpec)

/-- 'fluxionlaw17.TapeBends', WHERE WHAT IT READS IS OF BULK AT MOST 1048576: true; the input reads as it did. -/
def tapeBendsUptoRow : OpenClaim := { program := "ytdiflpfkoigmaaagreatdoor", sum := "6944051c2fd1681c24b17696849b9f77b054e29070c5a220d09fc05122b2df85", func := "fluxion/fluxionlaw17.TapeBends", spec := "tapeBends", unfollowed := true, recurses := true, named := ["fluxion/trace.has"], apart := false, laid := [("fluxion/trace.has", laid_fluxion_trace_has)], narrowed := true }
def TapeBendsUptoSaid : Prop := tapeBendsUptoRow.holds Tryz.pinned (OpenSpec.upto tapeBendsSpec)

/-- 'fluxionlaw17.TapeSecond', WHERE WHAT IT READS IS OF BULK AT MOST 1048576: true; the input reads as it did. -/
def tapeSecondUptoRow : OpenClaim := { program := "ytdiflpfkoigmaaagreatdoor", sum := "6944051c2fd1681c24b17696849b9f77b054e29070c5a220d09fc05122b2df85", func := "fluxion/fluxionlaw17.TapeSecond", spec := "tapeSecond", unfollowed := true, recurses := true, named := ["fluxion/trace.has"], apart := false, laid := [("fluxion/trace.has", laid_fluxion_trace_has)], narrowed := true }
def TapeSecondUptoSaid : Prop := tapeSecondUptoRow.holds Tryz.pinned (OpenSpec.upto tapeSecondSpec)

end Rows
end Go.Proofs.YtdiflpfkoigmaaaGreatDoor
