/-
  DERIVED. GIVEN WITH THE SEED: THE CARDS: each row of YtjjbondlcjnaiaaDoorRows.lean that lists a variable, with what it lists TIED to the program's text (the seventh form; the later family's looks); each row that meets fmt, with fmt's text TOLD by the authors' own Lean function (tested against real Go, not proved from fmt's source: count such statements apart). THE CARD IS WHAT COUNTS. Prove the row's statement (the work); the ties are given (YtjjbondlcjnaiaaDoorTie.lean); close each card by the builder's one call (the guide's Derived/Test/ToyasCard.lean, 'card_holds'). Laid BY PROGRAM, IN A SANDBOX (cutbox-door.mjs). By AI agents, Wed Nov 11 2026. No macro, syntax, notation, axiom, sorry.
-/
import Derived.Test.YtjjbondlcjnaiaaDoorRows
import GoSem.ClaimSeven
namespace Go.Proofs.YtjjbondlcjnaiaaDoor
namespace Rows

/-- THE TIED CARD OF 'fluxionlaw19.SparsePatterns'. -/
def sparsePatternsCard : Claim7 := { stood := { row := sparsePatternsRow, standIns := [], harness := (true, "712704a876d4f8872df8019b6c39f19690a6109c9bafcf863d7ce0e8ccc3215d"), looks := false }, kinds := [], alts := [], laidByText := true, laidKinds := [.data], laidTests := true, laidLooks := .later }
def SparsePatternsCardSaid : Prop := Claim7.holds Tryd.pinned (.plain (OpenSpec.ofChange sparsePatternsSpec)) sparsePatternsCard

/-- THE TIED CARD OF 'fluxionlaw19.SparseJoined'. -/
def sparseJoinedCard : Claim7 := { stood := { row := sparseJoinedRow, standIns := [], harness := (true, "712704a876d4f8872df8019b6c39f19690a6109c9bafcf863d7ce0e8ccc3215d"), looks := false }, kinds := [], alts := [], laidByText := true, laidKinds := [.data], laidTests := true, laidLooks := .later }
def SparseJoinedCardSaid : Prop := Claim7.holds Tryd.pinned (.plain (OpenSpec.ofChange sparseJoinedSpec)) sparseJoinedCard

/-- THE SECOND FORM's CARD OF 'fluxionlaw19.SparsePatterns'. -/
def sparsePatternsUptoCard : Claim7 := { stood := { row := sparsePatternsUptoRow, standIns := [], harness := (true, "712704a876d4f8872df8019b6c39f19690a6109c9bafcf863d7ce0e8ccc3215d"), looks := false }, kinds := [], alts := [], laidByText := true, laidKinds := [.data], laidTests := true, laidLooks := .later }
def SparsePatternsUptoCardSaid : Prop := Claim7.holds Tryd.pinned (.plain (OpenSpec.upto sparsePatternsSpec)) sparsePatternsUptoCard

/-- THE SECOND FORM's CARD OF 'fluxionlaw19.SparseJoined'. -/
def sparseJoinedUptoCard : Claim7 := { stood := { row := sparseJoinedUptoRow, standIns := [], harness := (true, "712704a876d4f8872df8019b6c39f19690a6109c9bafcf863d7ce0e8ccc3215d"), looks := false }, kinds := [], alts := [], laidByText := true, laidKinds := [.data], laidTests := true, laidLooks := .later }
def SparseJoinedUptoCardSaid : Prop := Claim7.holds Tryd.pinned (.plain (OpenSpec.upto sparseJoinedSpec)) sparseJoinedUptoCard
end Rows
end Go.Proofs.YtjjbondlcjnaiaaDoor
