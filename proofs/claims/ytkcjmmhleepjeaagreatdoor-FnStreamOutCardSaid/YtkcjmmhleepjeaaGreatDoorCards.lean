/-
  DERIVED. GIVEN WITH THE SEED: THE CARDS: each row of YtkcjmmhleepjeaaGreatDoorRows.lean that lists a variable, with what it lists TIED to the program's text (the seventh form; the later family's looks); each row that meets fmt, with fmt's text TOLD by the authors' own Lean function (tested against real Go, not proved from fmt's source: count such statements apart). THE CARD IS WHAT COUNTS. Prove the row's statement (the work); the ties are given (YtkcjmmhleepjeaaGreatDoorTie.lean); close each card by the builder's one call (the guide's Derived/Test/ToyasCard.lean, 'card_holds'). Laid BY PROGRAM, IN A SANDBOX (cutbox-door.mjs). By AI agents, Wed Nov 11 2026. No macro, syntax, notation, axiom, sorry.
-/
import Derived.Test.YtkcjmmhleepjeaaGreatDoorRows
import GoSem.ClaimSeven
namespace Go.Proofs.YtkcjmmhleepjeaaGreatDoor
namespace Rows

/-- THE TIED CARD OF 'laws.FnForSteps'. -/
def fnForStepsCard : Claim7 := { stood := { row := fnForStepsRow, standIns := [], harness := (true, "08c23b8def46776b52ab971a856b2a94d5c25d12e627e9dd70d8a2441780d7c2"), looks := true }, kinds := [], alts := [], laidByText := true, laidKinds := [.data, .data, .data, .sentinel, .sentinel], laidTests := true, laidLooks := .later }
def FnForStepsCardSaid : Prop := Claim7.holds Tryz.pinned (.plain (OpenSpec.ofChange fnForStepsSpec)) fnForStepsCard

/-- THE TIED CARD OF 'laws.FnStreamBoth'. -/
def fnStreamBothCard : Claim7 := { stood := { row := fnStreamBothRow, standIns := [], harness := (true, "08c23b8def46776b52ab971a856b2a94d5c25d12e627e9dd70d8a2441780d7c2"), looks := true }, kinds := [], alts := [], laidByText := true, laidKinds := [.data, .data, .data, .sentinel, .sentinel], laidTests := true, laidLooks := .later }
def FnStreamBothCardSaid : Prop := Claim7.holds Tryz.pinned (.plain (OpenSpec.ofChange fnStreamBothSpec)) fnStreamBothCard

/-- THE TIED CARD OF 'laws.FnStreamBack'. -/
def fnStreamBackCard : Claim7 := { stood := { row := fnStreamBackRow, standIns := [], harness := (true, "08c23b8def46776b52ab971a856b2a94d5c25d12e627e9dd70d8a2441780d7c2"), looks := true }, kinds := [], alts := [], laidByText := true, laidKinds := [.data, .data, .data, .sentinel, .sentinel], laidTests := true, laidLooks := .later }
def FnStreamBackCardSaid : Prop := Claim7.holds Tryz.pinned (.plain (OpenSpec.ofChange fnStreamBackSpec)) fnStreamBackCard

/-- THE TIED CARD OF 'laws.FnStreamOut'. -/
def fnStreamOutCard : Claim7 := { stood := { row := fnStreamOutRow, standIns := [], harness := (true, "08c23b8def46776b52ab971a856b2a94d5c25d12e627e9dd70d8a2441780d7c2"), looks := true }, kinds := [], alts := [], laidByText := true, laidKinds := [.data, .data, .data, .sentinel, .sentinel], laidTests := true, laidLooks := .later }
def FnStreamOutCardSaid : Prop := Claim7.holds Tryz.pinned (.plain (OpenSpec.ofChange fnStreamOutSpec)) fnStreamOutCard

/-- THE TIED CARD OF 'laws.FnStreamFor'. -/
def fnStreamForCard : Claim7 := { stood := { row := fnStreamForRow, standIns := [], harness := (true, "08c23b8def46776b52ab971a856b2a94d5c25d12e627e9dd70d8a2441780d7c2"), looks := true }, kinds := [], alts := [], laidByText := true, laidKinds := [.data, .data, .data, .sentinel, .sentinel], laidTests := true, laidLooks := .later }
def FnStreamForCardSaid : Prop := Claim7.holds Tryz.pinned (.plain (OpenSpec.ofChange fnStreamForSpec)) fnStreamForCard

/-- THE SECOND FORM's CARD OF 'laws.FnForSteps'. -/
def fnForStepsUptoCard : Claim7 := { stood := { row := fnForStepsUptoRow, standIns := [], harness := (true, "08c23b8def46776b52ab971a856b2a94d5c25d12e627e9dd70d8a2441780d7c2"), looks := true }, kinds := [], alts := [], laidByText := true, laidKinds := [.data, .data, .data, .sentinel, .sentinel], laidTests := true, laidLooks := .later }
def FnForStepsUptoCardSaid : Prop := Claim7.holds Tryz.pinned (.plain (OpenSpec.upto fnForStepsSpec)) fnForStepsUptoCard

/-- THE SECOND FORM's CARD OF 'laws.FnStreamBoth'. -/
def fnStreamBothUptoCard : Claim7 := { stood := { row := fnStreamBothUptoRow, standIns := [], harness := (true, "08c23b8def46776b52ab971a856b2a94d5c25d12e627e9dd70d8a2441780d7c2"), looks := true }, kinds := [], alts := [], laidByText := true, laidKinds := [.data, .data, .data, .sentinel, .sentinel], laidTests := true, laidLooks := .later }
def FnStreamBothUptoCardSaid : Prop := Claim7.holds Tryz.pinned (.plain (OpenSpec.upto fnStreamBothSpec)) fnStreamBothUptoCard

/-- THE SECOND FORM's CARD OF 'laws.FnStreamBack'. -/
def fnStreamBackUptoCard : Claim7 := { stood := { row := fnStreamBackUptoRow, standIns := [], harness := (true, "08c23b8def46776b52ab971a856b2a94d5c25d12e627e9dd70d8a2441780d7c2"), looks := true }, kinds := [], alts := [], laidByText := true, laidKinds := [.data, .data, .data, .sentinel, .sentinel], laidTests := true, laidLooks := .later }
def FnStreamBackUptoCardSaid : Prop := Claim7.holds Tryz.pinned (.plain (OpenSpec.upto fnStreamBackSpec)) fnStreamBackUptoCard

/-- THE SECOND FORM's CARD OF 'laws.FnStreamOut'. -/
def fnStreamOutUptoCard : Claim7 := { stood := { row := fnStreamOutUptoRow, standIns := [], harness := (true, "08c23b8def46776b52ab971a856b2a94d5c25d12e627e9dd70d8a2441780d7c2"), looks := true }, kinds := [], alts := [], laidByText := true, laidKinds := [.data, .data, .data, .sentinel, .sentinel], laidTests := true, laidLooks := .later }
def FnStreamOutUptoCardSaid : Prop := Claim7.holds Tryz.pinned (.plain (OpenSpec.upto fnStreamOutSpec)) fnStreamOutUptoCard

/-- THE SECOND FORM's CARD OF 'laws.FnStreamFor'. -/
def fnStreamForUptoCard : Claim7 := { stood := { row := fnStreamForUptoRow, standIns := [], harness := (true, "08c23b8def46776b52ab971a856b2a94d5c25d12e627e9dd70d8a2441780d7c2"), looks := true }, kinds := [], alts := [], laidByText := true, laidKinds := [.data, .data, .data, .sentinel, .sentinel], laidTests := true, laidLooks := .later }
def FnStreamForUptoCardSaid : Prop := Claim7.holds Tryz.pinned (.plain (OpenSpec.upto fnStreamForSpec)) fnStreamForUptoCard
end Rows
end Go.Proofs.YtkcjmmhleepjeaaGreatDoor
