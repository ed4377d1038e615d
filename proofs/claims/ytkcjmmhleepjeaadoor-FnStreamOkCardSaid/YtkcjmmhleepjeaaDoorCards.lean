/-
  DERIVED. GIVEN WITH THE SEED: THE CARDS: each row of YtkcjmmhleepjeaaDoorRows.lean that lists a variable, with what it lists TIED to the program's text (the seventh form; the later family's looks); each row that meets fmt, with fmt's text TOLD by the authors' own Lean function (tested against real Go, not proved from fmt's source: count such statements apart). THE CARD IS WHAT COUNTS. Prove the row's statement (the work); the ties are given (YtkcjmmhleepjeaaDoorTie.lean); close each card by the builder's one call (the guide's Derived/Test/ToyasCard.lean, 'card_holds'). Laid BY PROGRAM, IN A SANDBOX (cutbox-door.mjs). By AI agents, Wed Nov 11 2026. No macro, syntax, notation, axiom, sorry.
-/
import Derived.Test.YtkcjmmhleepjeaaDoorRows
import GoSem.ClaimSeven
namespace Go.Proofs.YtkcjmmhleepjeaaDoor
namespace Rows

/-- THE TIED CARD OF 'laws.FnExactStreamOk'. -/
def fnExactStreamOkCard : Claim7 := { stood := { row := fnExactStreamOkRow, standIns := [], harness := (true, "026a07ba743b5525f5071a53188f3f3b945062ee39922215ad22b4e0b0d285a3"), looks := true }, kinds := [], alts := [], laidByText := true, laidKinds := [.data, .data, .data, .sentinel, .sentinel], laidTests := true, laidLooks := .later }
def FnExactStreamOkCardSaid : Prop := Claim7.holds Tryd.pinned (.plain (OpenSpec.ofChange fnExactStreamOkSpec)) fnExactStreamOkCard

/-- THE TIED CARD OF 'laws.FnExactStreamFor'. -/
def fnExactStreamForCard : Claim7 := { stood := { row := fnExactStreamForRow, standIns := [], harness := (true, "026a07ba743b5525f5071a53188f3f3b945062ee39922215ad22b4e0b0d285a3"), looks := true }, kinds := [], alts := [], laidByText := true, laidKinds := [.data, .data, .data, .sentinel, .sentinel], laidTests := true, laidLooks := .later }
def FnExactStreamForCardSaid : Prop := Claim7.holds Tryd.pinned (.plain (OpenSpec.ofChange fnExactStreamForSpec)) fnExactStreamForCard

/-- THE TIED CARD OF 'laws.FnExactStreamOut'. -/
def fnExactStreamOutCard : Claim7 := { stood := { row := fnExactStreamOutRow, standIns := [], harness := (true, "026a07ba743b5525f5071a53188f3f3b945062ee39922215ad22b4e0b0d285a3"), looks := true }, kinds := [], alts := [], laidByText := true, laidKinds := [.data, .data, .data, .sentinel, .sentinel], laidTests := true, laidLooks := .later }
def FnExactStreamOutCardSaid : Prop := Claim7.holds Tryd.pinned (.plain (OpenSpec.ofChange fnExactStreamOutSpec)) fnExactStreamOutCard

/-- THE TIED CARD OF 'laws.FnExactStreamBack'. -/
def fnExactStreamBackCard : Claim7 := { stood := { row := fnExactStreamBackRow, standIns := [], harness := (true, "026a07ba743b5525f5071a53188f3f3b945062ee39922215ad22b4e0b0d285a3"), looks := true }, kinds := [], alts := [], laidByText := true, laidKinds := [.data, .data, .data, .sentinel, .sentinel], laidTests := true, laidLooks := .later }
def FnExactStreamBackCardSaid : Prop := Claim7.holds Tryd.pinned (.plain (OpenSpec.ofChange fnExactStreamBackSpec)) fnExactStreamBackCard

/-- THE TIED CARD OF 'laws.FnStreamOk'. -/
def fnStreamOkCard : Claim7 := { stood := { row := fnStreamOkRow, standIns := [], harness := (true, "026a07ba743b5525f5071a53188f3f3b945062ee39922215ad22b4e0b0d285a3"), looks := true }, kinds := [], alts := [], laidByText := true, laidKinds := [.data, .data, .data, .sentinel, .sentinel], laidTests := true, laidLooks := .later }
def FnStreamOkCardSaid : Prop := Claim7.holds Tryd.pinned (.plain (OpenSpec.ofChange fnStreamOkSpec)) fnStreamOkCard

/-- THE SECOND FORM's CARD OF 'laws.FnExactStreamOk'. -/
def fnExactStreamOkUptoCard : Claim7 := { stood := { row := fnExactStreamOkUptoRow, standIns := [], harness := (true, "026a07ba743b5525f5071a53188f3f3b945062ee39922215ad22b4e0b0d285a3"), looks := true }, kinds := [], alts := [], laidByText := true, laidKinds := [.data, .data, .data, .sentinel, .sentinel], laidTests := true, laidLooks := .later }
def FnExactStreamOkUptoCardSaid : Prop := Claim7.holds Tryd.pinned (.plain (OpenSpec.upto fnExactStreamOkSpec)) fnExactStreamOkUptoCard

/-- THE SECOND FORM's CARD OF 'laws.FnExactStreamFor'. -/
def fnExactStreamForUptoCard : Claim7 := { stood := { row := fnExactStreamForUptoRow, standIns := [], harness := (true, "026a07ba743b5525f5071a53188f3f3b945062ee39922215ad22b4e0b0d285a3"), looks := true }, kinds := [], alts := [], laidByText := true, laidKinds := [.data, .data, .data, .sentinel, .sentinel], laidTests := true, laidLooks := .later }
def FnExactStreamForUptoCardSaid : Prop := Claim7.holds Tryd.pinned (.plain (OpenSpec.upto fnExactStreamForSpec)) fnExactStreamForUptoCard

/-- THE SECOND FORM's CARD OF 'laws.FnExactStreamOut'. -/
def fnExactStreamOutUptoCard : Claim7 := { stood := { row := fnExactStreamOutUptoRow, standIns := [], harness := (true, "026a07ba743b5525f5071a53188f3f3b945062ee39922215ad22b4e0b0d285a3"), looks := true }, kinds := [], alts := [], laidByText := true, laidKinds := [.data, .data, .data, .sentinel, .sentinel], laidTests := true, laidLooks := .later }
def FnExactStreamOutUptoCardSaid : Prop := Claim7.holds Tryd.pinned (.plain (OpenSpec.upto fnExactStreamOutSpec)) fnExactStreamOutUptoCard

/-- THE SECOND FORM's CARD OF 'laws.FnExactStreamBack'. -/
def fnExactStreamBackUptoCard : Claim7 := { stood := { row := fnExactStreamBackUptoRow, standIns := [], harness := (true, "026a07ba743b5525f5071a53188f3f3b945062ee39922215ad22b4e0b0d285a3"), looks := true }, kinds := [], alts := [], laidByText := true, laidKinds := [.data, .data, .data, .sentinel, .sentinel], laidTests := true, laidLooks := .later }
def FnExactStreamBackUptoCardSaid : Prop := Claim7.holds Tryd.pinned (.plain (OpenSpec.upto fnExactStreamBackSpec)) fnExactStreamBackUptoCard

/-- THE SECOND FORM's CARD OF 'laws.FnStreamOk'. -/
def fnStreamOkUptoCard : Claim7 := { stood := { row := fnStreamOkUptoRow, standIns := [], harness := (true, "026a07ba743b5525f5071a53188f3f3b945062ee39922215ad22b4e0b0d285a3"), looks := true }, kinds := [], alts := [], laidByText := true, laidKinds := [.data, .data, .data, .sentinel, .sentinel], laidTests := true, laidLooks := .later }
def FnStreamOkUptoCardSaid : Prop := Claim7.holds Tryd.pinned (.plain (OpenSpec.upto fnStreamOkSpec)) fnStreamOkUptoCard
end Rows
end Go.Proofs.YtkcjmmhleepjeaaDoor
