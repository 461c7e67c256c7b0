/-
  DERIVED. GIVEN WITH THE SEED: THE CARDS: each row of YtdiflpfkoigmaaaGreatDoorRows.lean that lists a variable, with what it lists TIED to the program's text (the seventh form; the later family's looks); each row that meets fmt, with fmt's text TOLD by the authors' own Lean function (tested against real Go, not proved from fmt's source: count such statements apart). THE CARD IS WHAT COUNTS. Prove the row's statement (the work); the ties are given (YtdiflpfkoigmaaaGreatDoorTie.lean); close each card by the builder's one call (the guide's Derived/Test/ToyasCard.lean, 'card_holds'). Laid BY PROGRAM, IN A SANDBOX (cutbox-door.mjs). By AI agents, Wed Nov 11 2026. No macro, syntax, notation, axiom, sorry.
-/
import Derived.Test.YtdiflpfkoigmaaaGreatDoorRows
import GoSem.ClaimSeven
namespace Go.Proofs.YtdiflpfkoigmaaaGreatDoor
namespace Rows

/-- THE TIED CARD OF 'fluxionlaw17.TapeGradients'. -/
def tapeGradientsCard : Claim7 := { stood := { row := tapeGradientsRow, standIns := [], harness := (true, "462404e82384b716b55506d3ce05bd52fb48daa0662f32e4540fe502fb07ffdd"), looks := false }, kinds := [], alts := [], laidByText := true, laidKinds := [.data], laidTests := true, laidLooks := .later }
def TapeGradientsCardSaid : Prop := Claim7.holds Tryz.pinned (.plain (OpenSpec.ofChange tapeGradientsSpec)) tapeGradientsCard

/-- THE TIED CARD OF 'fluxionlaw17.TapeJoined'. -/
def tapeJoinedCard : Claim7 := { stood := { row := tapeJoinedRow, standIns := [], harness := (true, "462404e82384b716b55506d3ce05bd52fb48daa0662f32e4540fe502fb07ffdd"), looks := false }, kinds := [], alts := [], laidByText := true, laidKinds := [.data], laidTests := true, laidLooks := .later }
def TapeJoinedCardSaid : Prop := Claim7.holds Tryz.pinned (.plain (OpenSpec.ofChange tapeJoinedSpec)) tapeJoinedCard

/-- THE TIED CARD OF 'fluxionlaw17.TapeReverses'. -/
def tapeReversesCard : Claim7 := { stood := { row := tapeReversesRow, standIns := [], harness := (true, "462404e82384b716b55506d3ce05bd52fb48daa0662f32e4540fe502fb07ffdd"), looks := false }, kinds := [], alts := [], laidByText := true, laidKinds := [.data], laidTests := true, laidLooks := .later }
def TapeReversesCardSaid : Prop := Claim7.holds Tryz.pinned (.plain (OpenSpec.ofChange tapeReversesSpec)) tapeReversesCard

/-- THE TIED CARD OF 'fluxionlaw17.TapeBoth'. -/
def tapeBothCard : Claim7 := { stood := { row := tapeBothRow, standIns := [], harness := (true, "462404e82384b716b55506d3ce05bd52fb48daa0662f32e4540fe502fb07ffdd"), looks := false }, kinds := [], alts := [], laidByText := true, laidKinds := [.data], laidTests := true, laidLooks := .later }
def TapeBothCardSaid : Prop := Claim7.holds Tryz.pinned (.plain (OpenSpec.ofChange tapeBothSpec)) tapeBothCard

/-- THE TIED CARD OF 'fluxionlaw17.TapeCheap'. -/
def tapeCheapCard : Claim7 := { stood := { row := tapeCheapRow, standIns := [], harness := (true, "462404e82384b716b55506d3ce05bd52fb48daa0662f32e4540fe502fb07ffdd"), looks := false }, kinds := [], alts := [], laidByText := true, laidKinds := [.data], laidTests := true, laidLooks := .later }
def TapeCheapCardSaid : Prop := Claim7.holds Tryz.pinned (.plain (OpenSpec.ofChange tapeCheapSpec)) tapeCheapCard

/-- THE TIED CARD OF 'fluxionlaw17.TapeThere'. -/
def tapeThereCard : Claim7 := { stood := { row := tapeThereRow, standIns := [], harness := (true, "462404e82384b716b55506d3ce05bd52fb48daa0662f32e4540fe502fb07ffdd"), looks := false }, kinds := [], alts := [], laidByText := true, laidKinds := [.data], laidTests := true, laidLooks := .later }
def TapeThereCardSaid : Prop := Claim7.holds Tryz.pinned (.plain (OpenSpec.ofChange tapeThereSpec)) tapeThereCard

/-- THE TIED CARD OF 'fluxionlaw17.TapeBends'. -/
def tapeBendsCard : Claim7 := { stood := { row := tapeBendsRow, standIns := [], harness := (true, "462404e82384b716b55506d3ce05bd52fb48daa0662f32e4540fe502fb07ffdd"), looks := false }, kinds := [], alts := [], laidByText := true, laidKinds := [.data], laidTests := true, laidLooks := .later }
def TapeBendsCardSaid : Prop := Claim7.holds Tryz.pinned (.plain (OpenSpec.ofChange tapeBendsSpec)) tapeBendsCard

/-- THE TIED CARD OF 'fluxionlaw17.TapeSecond'. -/
def tapeSecondCard : Claim7 := { stood := { row := tapeSecondRow, standIns := [], harness := (true, "462404e82384b716b55506d3ce05bd52fb48daa0662f32e4540fe502fb07ffdd"), looks := false }, kinds := [], alts := [], laidByText := true, laidKinds := [.data], laidTests := true, laidLooks := .later }
def TapeSecondCardSaid : Prop := Claim7.holds Tryz.pinned (.plain (OpenSpec.ofChange tapeSecondSpec)) tapeSecondCard

/-- THE SECOND FORM's CARD OF 'fluxionlaw17.TapeGradients'. -/
def tapeGradientsUptoCard : Claim7 := { stood := { row := tapeGradientsUptoRow, standIns := [], harness := (true, "462404e82384b716b55506d3ce05bd52fb48daa0662f32e4540fe502fb07ffdd"), looks := false }, kinds := [], alts := [], laidByText := true, laidKinds := [.data], laidTests := true, laidLooks := .later }
def TapeGradientsUptoCardSaid : Prop := Claim7.holds Tryz.pinned (.plain (OpenSpec.upto tapeGradientsSpec)) tapeGradientsUptoCard

/-- THE SECOND FORM's CARD OF 'fluxionlaw17.TapeJoined'. -/
def tapeJoinedUptoCard : Claim7 := { stood := { row := tapeJoinedUptoRow, standIns := [], harness := (true, "462404e82384b716b55506d3ce05bd52fb48daa0662f32e4540fe502fb07ffdd"), looks := false }, kinds := [], alts := [], laidByText := true, laidKinds := [.data], laidTests := true, laidLooks := .later }
def TapeJoinedUptoCardSaid : Prop := Claim7.holds Tryz.pinned (.plain (OpenSpec.upto tapeJoinedSpec)) tapeJoinedUptoCard

/-- THE SECOND FORM's CARD OF 'fluxionlaw17.TapeReverses'. -/
def tapeReversesUptoCard : Claim7 := { stood := { row := tapeReversesUptoRow, standIns := [], harness := (true, "462404e82384b716b55506d3ce05bd52fb48daa0662f32e4540fe502fb07ffdd"), looks := false }, kinds := [], alts := [], laidByText := true, laidKinds := [.data], laidTests := true, laidLooks := .later }
def TapeReversesUptoCardSaid : Prop := Claim7.holds Tryz.pinned (.plain (OpenSpec.upto tapeReversesSpec)) tapeReversesUptoCard

/-- THE SECOND FORM's CARD OF 'fluxionlaw17.TapeBoth'. -/
def tapeBothUptoCard : Claim7 := { stood := { row := tapeBothUptoRow, standIns := [], harness := (true, "462404e82384b716b55506d3ce05bd52fb48daa0662f32e4540fe502fb07ffdd"), looks := false }, kinds := [], alts := [], laidByText := true, laidKinds := [.data], laidTests := true, laidLooks := .later }
def TapeBothUptoCardSaid : Prop := Claim7.holds Tryz.pinned (.plain (OpenSpec.upto tapeBothSpec)) tapeBothUptoCard

/-- THE SECOND FORM's CARD OF 'fluxionlaw17.TapeCheap'. -/
def tapeCheapUptoCard : Claim7 := { stood := { row := tapeCheapUptoRow, standIns := [], harness := (true, "462404e82384b716b55506d3ce05bd52fb48daa0662f32e4540fe502fb07ffdd"), looks := false }, kinds := [], alts := [], laidByText := true, laidKinds := [.data], laidTests := true, laidLooks := .later }
def TapeCheapUptoCardSaid : Prop := Claim7.holds Tryz.pinned (.plain (OpenSpec.upto tapeCheapSpec)) tapeCheapUptoCard

/-- THE SECOND FORM's CARD OF 'fluxionlaw17.TapeThere'. -/
def tapeThereUptoCard : Claim7 := { stood := { row := tapeThereUptoRow, standIns := [], harness := (true, "462404e82384b716b55506d3ce05bd52fb48daa0662f32e4540fe502fb07ffdd"), looks := false }, kinds := [], alts := [], laidByText := true, laidKinds := [.data], laidTests := true, laidLooks := .later }
def TapeThereUptoCardSaid : Prop := Claim7.holds Tryz.pinned (.plain (OpenSpec.upto tapeThereSpec)) tapeThereUptoCard

/-- THE SECOND FORM's CARD OF 'fluxionlaw17.TapeBends'. -/
def tapeBendsUptoCard : Claim7 := { stood := { row := tapeBendsUptoRow, standIns := [], harness := (true, "462404e82384b716b55506d3ce05bd52fb48daa0662f32e4540fe502fb07ffdd"), looks := false }, kinds := [], alts := [], laidByText := true, laidKinds := [.data], laidTests := true, laidLooks := .later }
def TapeBendsUptoCardSaid : Prop := Claim7.holds Tryz.pinned (.plain (OpenSpec.upto tapeBendsSpec)) tapeBendsUptoCard

/-- THE SECOND FORM's CARD OF 'fluxionlaw17.TapeSecond'. -/
def tapeSecondUptoCard : Claim7 := { stood := { row := tapeSecondUptoRow, standIns := [], harness := (true, "462404e82384b716b55506d3ce05bd52fb48daa0662f32e4540fe502fb07ffdd"), looks := false }, kinds := [], alts := [], laidByText := true, laidKinds := [.data], laidTests := true, laidLooks := .later }
def TapeSecondUptoCardSaid : Prop := Claim7.holds Tryz.pinned (.plain (OpenSpec.upto tapeSecondSpec)) tapeSecondUptoCard
end Rows
end Go.Proofs.YtdiflpfkoigmaaaGreatDoor
