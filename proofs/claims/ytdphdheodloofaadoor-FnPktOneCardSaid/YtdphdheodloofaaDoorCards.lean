/-
  DERIVED. GIVEN WITH THE SEED: THE CARDS: each row of YtdphdheodloofaaDoorRows.lean that lists a variable, with what it lists TIED to the program's text (the seventh form; the later family's looks); each row that meets fmt, with fmt's text TOLD by the authors' own Lean function (tested against real Go, not proved from fmt's source: count such statements apart). THE CARD IS WHAT COUNTS. Prove the row's statement (the work); the ties are given (YtdphdheodloofaaDoorTie.lean); close each card by the builder's one call (the guide's Derived/Test/ToyasCard.lean, 'card_holds'). Laid BY PROGRAM, IN A SANDBOX (cutbox-door.mjs). By AI agents, Wed Nov 11 2026. No macro, syntax, notation, axiom, sorry.
-/
import Derived.Test.YtdphdheodloofaaDoorRows
import GoSem.ClaimSeven
namespace Go.Proofs.YtdphdheodloofaaDoor
namespace Rows

/-- THE TIED CARD OF 'laws.FnEndSides'. -/
def fnEndSidesCard : Claim7 := { stood := { row := fnEndSidesRow, standIns := [], harness := (true, "ef2f638205a27e075e063e5b530b3b4cf99cb74e8fb2916de9f430f12533954b"), looks := true }, kinds := [], alts := [], laidByText := true, laidKinds := [.data, .data, .data], laidTests := true, laidLooks := .later }
def FnEndSidesCardSaid : Prop := Claim7.holds Tryd.pinned (.plain (OpenSpec.ofChange fnEndSidesSpec)) fnEndSidesCard

/-- THE TIED CARD OF 'laws.FnExactEndText'. -/
def fnExactEndTextCard : Claim7 := { stood := { row := fnExactEndTextRow, standIns := [], harness := (true, "ef2f638205a27e075e063e5b530b3b4cf99cb74e8fb2916de9f430f12533954b"), looks := true }, kinds := [], alts := [], laidByText := true, laidKinds := [.data, .data, .data], laidTests := true, laidLooks := .later }
def FnExactEndTextCardSaid : Prop := Claim7.holds Tryd.pinned (.plain (OpenSpec.ofChange fnExactEndTextSpec)) fnExactEndTextCard

/-- THE TIED CARD OF 'laws.FnEndOther'. -/
def fnEndOtherCard : Claim7 := { stood := { row := fnEndOtherRow, standIns := [], harness := (true, "ef2f638205a27e075e063e5b530b3b4cf99cb74e8fb2916de9f430f12533954b"), looks := true }, kinds := [], alts := [], laidByText := true, laidKinds := [.data, .data, .data], laidTests := true, laidLooks := .later }
def FnEndOtherCardSaid : Prop := Claim7.holds Tryd.pinned (.plain (OpenSpec.ofChange fnEndOtherSpec)) fnEndOtherCard

/-- THE TIED CARD OF 'laws.FnPktEnds'. -/
def fnPktEndsCard : Claim7 := { stood := { row := fnPktEndsRow, standIns := [], harness := (true, "ef2f638205a27e075e063e5b530b3b4cf99cb74e8fb2916de9f430f12533954b"), looks := true }, kinds := [], alts := [], laidByText := true, laidKinds := [.data, .data, .data], laidTests := true, laidLooks := .later }
def FnPktEndsCardSaid : Prop := Claim7.holds Tryd.pinned (.plain (OpenSpec.ofChange fnPktEndsSpec)) fnPktEndsCard

/-- THE TIED CARD OF 'laws.FnExactPktText'. -/
def fnExactPktTextCard : Claim7 := { stood := { row := fnExactPktTextRow, standIns := [], harness := (true, "ef2f638205a27e075e063e5b530b3b4cf99cb74e8fb2916de9f430f12533954b"), looks := true }, kinds := [], alts := [], laidByText := true, laidKinds := [.data, .data, .data], laidTests := true, laidLooks := .later }
def FnExactPktTextCardSaid : Prop := Claim7.holds Tryd.pinned (.plain (OpenSpec.ofChange fnExactPktTextSpec)) fnExactPktTextCard

/-- THE TIED CARD OF 'laws.FnPktOne'. -/
def fnPktOneCard : Claim7 := { stood := { row := fnPktOneRow, standIns := [], harness := (true, "ef2f638205a27e075e063e5b530b3b4cf99cb74e8fb2916de9f430f12533954b"), looks := true }, kinds := [], alts := [], laidByText := true, laidKinds := [.data, .data, .data], laidTests := true, laidLooks := .later }
def FnPktOneCardSaid : Prop := Claim7.holds Tryd.pinned (.plain (OpenSpec.ofChange fnPktOneSpec)) fnPktOneCard

/-- THE TIED CARD OF 'laws.FnExactEndRead'. -/
def fnExactEndReadCard : Claim7 := { stood := { row := fnExactEndReadRow, standIns := [], harness := (true, "ef2f638205a27e075e063e5b530b3b4cf99cb74e8fb2916de9f430f12533954b"), looks := true }, kinds := [], alts := [], laidByText := true, laidKinds := [.data, .data, .data, .sentinel, .sentinel], laidTests := true, laidLooks := .later }
def FnExactEndReadCardSaid : Prop := Claim7.holds Tryd.pinned (.plain (OpenSpec.ofChange fnExactEndReadSpec)) fnExactEndReadCard

/-- THE TIED CARD OF 'laws.FnEndBack'. -/
def fnEndBackCard : Claim7 := { stood := { row := fnEndBackRow, standIns := [], harness := (true, "ef2f638205a27e075e063e5b530b3b4cf99cb74e8fb2916de9f430f12533954b"), looks := true }, kinds := [], alts := [], laidByText := true, laidKinds := [.data, .data, .data, .sentinel, .sentinel], laidTests := true, laidLooks := .later }
def FnEndBackCardSaid : Prop := Claim7.holds Tryd.pinned (.plain (OpenSpec.ofChange fnEndBackSpec)) fnEndBackCard

/-- THE TIED CARD OF 'laws.FnEndCut'. -/
def fnEndCutCard : Claim7 := { stood := { row := fnEndCutRow, standIns := [], harness := (true, "ef2f638205a27e075e063e5b530b3b4cf99cb74e8fb2916de9f430f12533954b"), looks := true }, kinds := [], alts := [], laidByText := true, laidKinds := [.data, .data, .data, .sentinel, .sentinel], laidTests := true, laidLooks := .later }
def FnEndCutCardSaid : Prop := Claim7.holds Tryd.pinned (.plain (OpenSpec.ofChange fnEndCutSpec)) fnEndCutCard

/-- THE TIED CARD OF 'laws.FnEndStrict'. -/
def fnEndStrictCard : Claim7 := { stood := { row := fnEndStrictRow, standIns := [], harness := (true, "ef2f638205a27e075e063e5b530b3b4cf99cb74e8fb2916de9f430f12533954b"), looks := true }, kinds := [], alts := [], laidByText := true, laidKinds := [.data, .data, .data, .sentinel, .sentinel], laidTests := true, laidLooks := .later }
def FnEndStrictCardSaid : Prop := Claim7.holds Tryd.pinned (.plain (OpenSpec.ofChange fnEndStrictSpec)) fnEndStrictCard

/-- THE TIED CARD OF 'laws.FnHeldRest'. -/
def fnHeldRestCard : Claim7 := { stood := { row := fnHeldRestRow, standIns := [], harness := (true, "ef2f638205a27e075e063e5b530b3b4cf99cb74e8fb2916de9f430f12533954b"), looks := true }, kinds := [], alts := [], laidByText := true, laidKinds := [.data, .data, .data, .sentinel, .sentinel], laidTests := true, laidLooks := .later }
def FnHeldRestCardSaid : Prop := Claim7.holds Tryd.pinned (.plain (OpenSpec.ofChange fnHeldRestSpec)) fnHeldRestCard

/-- THE TIED CARD OF 'laws.FnExactTextNames'. -/
def fnExactTextNamesCard : Claim7 := { stood := { row := fnExactTextNamesRow, standIns := [], harness := (true, "ef2f638205a27e075e063e5b530b3b4cf99cb74e8fb2916de9f430f12533954b"), looks := true }, kinds := [], alts := [], laidByText := true, laidKinds := [.data, .data, .data, .sentinel, .sentinel], laidTests := true, laidLooks := .later }
def FnExactTextNamesCardSaid : Prop := Claim7.holds Tryd.pinned (.plain (OpenSpec.ofChange fnExactTextNamesSpec)) fnExactTextNamesCard

/-- THE SECOND FORM's CARD OF 'laws.FnEndSides'. -/
def fnEndSidesUptoCard : Claim7 := { stood := { row := fnEndSidesUptoRow, standIns := [], harness := (true, "ef2f638205a27e075e063e5b530b3b4cf99cb74e8fb2916de9f430f12533954b"), looks := true }, kinds := [], alts := [], laidByText := true, laidKinds := [.data, .data, .data], laidTests := true, laidLooks := .later }
def FnEndSidesUptoCardSaid : Prop := Claim7.holds Tryd.pinned (.plain (OpenSpec.upto fnEndSidesSpec)) fnEndSidesUptoCard

/-- THE SECOND FORM's CARD OF 'laws.FnExactEndText'. -/
def fnExactEndTextUptoCard : Claim7 := { stood := { row := fnExactEndTextUptoRow, standIns := [], harness := (true, "ef2f638205a27e075e063e5b530b3b4cf99cb74e8fb2916de9f430f12533954b"), looks := true }, kinds := [], alts := [], laidByText := true, laidKinds := [.data, .data, .data], laidTests := true, laidLooks := .later }
def FnExactEndTextUptoCardSaid : Prop := Claim7.holds Tryd.pinned (.plain (OpenSpec.upto fnExactEndTextSpec)) fnExactEndTextUptoCard

/-- THE SECOND FORM's CARD OF 'laws.FnEndOther'. -/
def fnEndOtherUptoCard : Claim7 := { stood := { row := fnEndOtherUptoRow, standIns := [], harness := (true, "ef2f638205a27e075e063e5b530b3b4cf99cb74e8fb2916de9f430f12533954b"), looks := true }, kinds := [], alts := [], laidByText := true, laidKinds := [.data, .data, .data], laidTests := true, laidLooks := .later }
def FnEndOtherUptoCardSaid : Prop := Claim7.holds Tryd.pinned (.plain (OpenSpec.upto fnEndOtherSpec)) fnEndOtherUptoCard

/-- THE SECOND FORM's CARD OF 'laws.FnPktEnds'. -/
def fnPktEndsUptoCard : Claim7 := { stood := { row := fnPktEndsUptoRow, standIns := [], harness := (true, "ef2f638205a27e075e063e5b530b3b4cf99cb74e8fb2916de9f430f12533954b"), looks := true }, kinds := [], alts := [], laidByText := true, laidKinds := [.data, .data, .data], laidTests := true, laidLooks := .later }
def FnPktEndsUptoCardSaid : Prop := Claim7.holds Tryd.pinned (.plain (OpenSpec.upto fnPktEndsSpec)) fnPktEndsUptoCard

/-- THE SECOND FORM's CARD OF 'laws.FnExactPktText'. -/
def fnExactPktTextUptoCard : Claim7 := { stood := { row := fnExactPktTextUptoRow, standIns := [], harness := (true, "ef2f638205a27e075e063e5b530b3b4cf99cb74e8fb2916de9f430f12533954b"), looks := true }, kinds := [], alts := [], laidByText := true, laidKinds := [.data, .data, .data], laidTests := true, laidLooks := .later }
def FnExactPktTextUptoCardSaid : Prop := Claim7.holds Tryd.pinned (.plain (OpenSpec.upto fnExactPktTextSpec)) fnExactPktTextUptoCard

/-- THE SECOND FORM's CARD OF 'laws.FnPktOne'. -/
def fnPktOneUptoCard : Claim7 := { stood := { row := fnPktOneUptoRow, standIns := [], harness := (true, "ef2f638205a27e075e063e5b530b3b4cf99cb74e8fb2916de9f430f12533954b"), looks := true }, kinds := [], alts := [], laidByText := true, laidKinds := [.data, .data, .data], laidTests := true, laidLooks := .later }
def FnPktOneUptoCardSaid : Prop := Claim7.holds Tryd.pinned (.plain (OpenSpec.upto fnPktOneSpec)) fnPktOneUptoCard

/-- THE SECOND FORM's CARD OF 'laws.FnExactEndRead'. -/
def fnExactEndReadUptoCard : Claim7 := { stood := { row := fnExactEndReadUptoRow, standIns := [], harness := (true, "ef2f638205a27e075e063e5b530b3b4cf99cb74e8fb2916de9f430f12533954b"), looks := true }, kinds := [], alts := [], laidByText := true, laidKinds := [.data, .data, .data, .sentinel, .sentinel], laidTests := true, laidLooks := .later }
def FnExactEndReadUptoCardSaid : Prop := Claim7.holds Tryd.pinned (.plain (OpenSpec.upto fnExactEndReadSpec)) fnExactEndReadUptoCard

/-- THE SECOND FORM's CARD OF 'laws.FnEndBack'. -/
def fnEndBackUptoCard : Claim7 := { stood := { row := fnEndBackUptoRow, standIns := [], harness := (true, "ef2f638205a27e075e063e5b530b3b4cf99cb74e8fb2916de9f430f12533954b"), looks := true }, kinds := [], alts := [], laidByText := true, laidKinds := [.data, .data, .data, .sentinel, .sentinel], laidTests := true, laidLooks := .later }
def FnEndBackUptoCardSaid : Prop := Claim7.holds Tryd.pinned (.plain (OpenSpec.upto fnEndBackSpec)) fnEndBackUptoCard

/-- THE SECOND FORM's CARD OF 'laws.FnEndCut'. -/
def fnEndCutUptoCard : Claim7 := { stood := { row := fnEndCutUptoRow, standIns := [], harness := (true, "ef2f638205a27e075e063e5b530b3b4cf99cb74e8fb2916de9f430f12533954b"), looks := true }, kinds := [], alts := [], laidByText := true, laidKinds := [.data, .data, .data, .sentinel, .sentinel], laidTests := true, laidLooks := .later }
def FnEndCutUptoCardSaid : Prop := Claim7.holds Tryd.pinned (.plain (OpenSpec.upto fnEndCutSpec)) fnEndCutUptoCard

/-- THE SECOND FORM's CARD OF 'laws.FnEndStrict'. -/
def fnEndStrictUptoCard : Claim7 := { stood := { row := fnEndStrictUptoRow, standIns := [], harness := (true, "ef2f638205a27e075e063e5b530b3b4cf99cb74e8fb2916de9f430f12533954b"), looks := true }, kinds := [], alts := [], laidByText := true, laidKinds := [.data, .data, .data, .sentinel, .sentinel], laidTests := true, laidLooks := .later }
def FnEndStrictUptoCardSaid : Prop := Claim7.holds Tryd.pinned (.plain (OpenSpec.upto fnEndStrictSpec)) fnEndStrictUptoCard

/-- THE SECOND FORM's CARD OF 'laws.FnHeldRest'. -/
def fnHeldRestUptoCard : Claim7 := { stood := { row := fnHeldRestUptoRow, standIns := [], harness := (true, "ef2f638205a27e075e063e5b530b3b4cf99cb74e8fb2916de9f430f12533954b"), looks := true }, kinds := [], alts := [], laidByText := true, laidKinds := [.data, .data, .data, .sentinel, .sentinel], laidTests := true, laidLooks := .later }
def FnHeldRestUptoCardSaid : Prop := Claim7.holds Tryd.pinned (.plain (OpenSpec.upto fnHeldRestSpec)) fnHeldRestUptoCard

/-- THE SECOND FORM's CARD OF 'laws.FnExactTextNames'. -/
def fnExactTextNamesUptoCard : Claim7 := { stood := { row := fnExactTextNamesUptoRow, standIns := [], harness := (true, "ef2f638205a27e075e063e5b530b3b4cf99cb74e8fb2916de9f430f12533954b"), looks := true }, kinds := [], alts := [], laidByText := true, laidKinds := [.data, .data, .data, .sentinel, .sentinel], laidTests := true, laidLooks := .later }
def FnExactTextNamesUptoCardSaid : Prop := Claim7.holds Tryd.pinned (.plain (OpenSpec.upto fnExactTextNamesSpec)) fnExactTextNamesUptoCard
end Rows
end Go.Proofs.YtdphdheodloofaaDoor
