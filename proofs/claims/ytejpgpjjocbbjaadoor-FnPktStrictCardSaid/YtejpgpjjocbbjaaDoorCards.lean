/-
  DERIVED. GIVEN WITH THE SEED: THE CARDS: each row of YtejpgpjjocbbjaaDoorRows.lean that lists a variable, with what it lists TIED to the program's text (the seventh form; the later family's looks); each row that meets fmt, with fmt's text TOLD by the authors' own Lean function (tested against real Go, not proved from fmt's source: count such statements apart). THE CARD IS WHAT COUNTS. Prove the row's statement (the work); the ties are given (YtejpgpjjocbbjaaDoorTie.lean); close each card by the builder's one call (the guide's Derived/Test/ToyasCard.lean, 'card_holds'). Laid BY PROGRAM, IN A SANDBOX (cutbox-door.mjs). By AI agents, Wed Nov 11 2026. No macro, syntax, notation, axiom, sorry.
-/
import Derived.Test.YtejpgpjjocbbjaaDoorRows
import GoSem.ClaimSeven
namespace Go.Proofs.YtejpgpjjocbbjaaDoor
namespace Rows

/-- THE TIED CARD OF 'laws.FnPktBack'. -/
def fnPktBackCard : Claim7 := { stood := { row := fnPktBackRow, standIns := [], harness := (true, "ae169a46b38145d5fed22f32d7d944a1be1ae36eb2db4ed7feefbd227703ae30"), looks := true }, kinds := [], alts := [], laidByText := true, laidKinds := [.data, .data, .data, .data, .sentinel, .sentinel, .pinned], laidTests := true, laidLooks := .later }
def FnPktBackCardSaid : Prop := Claim7.holds Tryd.pinned (.plain (OpenSpec.ofChange fnPktBackSpec)) fnPktBackCard

/-- THE TIED CARD OF 'laws.FnPktCut'. -/
def fnPktCutCard : Claim7 := { stood := { row := fnPktCutRow, standIns := [], harness := (true, "ae169a46b38145d5fed22f32d7d944a1be1ae36eb2db4ed7feefbd227703ae30"), looks := true }, kinds := [], alts := [], laidByText := true, laidKinds := [.data, .data, .data, .data, .sentinel, .sentinel, .pinned], laidTests := true, laidLooks := .later }
def FnPktCutCardSaid : Prop := Claim7.holds Tryd.pinned (.plain (OpenSpec.ofChange fnPktCutSpec)) fnPktCutCard

/-- THE TIED CARD OF 'laws.FnExactPktRead'. -/
def fnExactPktReadCard : Claim7 := { stood := { row := fnExactPktReadRow, standIns := [], harness := (true, "ae169a46b38145d5fed22f32d7d944a1be1ae36eb2db4ed7feefbd227703ae30"), looks := true }, kinds := [], alts := [], laidByText := true, laidKinds := [.data, .data, .data, .data, .sentinel, .sentinel, .pinned], laidTests := true, laidLooks := .later }
def FnExactPktReadCardSaid : Prop := Claim7.holds Tryd.pinned (.plain (OpenSpec.ofChange fnExactPktReadSpec)) fnExactPktReadCard

/-- THE TIED CARD OF 'laws.FnPktStrict'. -/
def fnPktStrictCard : Claim7 := { stood := { row := fnPktStrictRow, standIns := [], harness := (true, "ae169a46b38145d5fed22f32d7d944a1be1ae36eb2db4ed7feefbd227703ae30"), looks := true }, kinds := [], alts := [], laidByText := true, laidKinds := [.data, .data, .data, .data, .sentinel, .sentinel, .pinned], laidTests := true, laidLooks := .later }
def FnPktStrictCardSaid : Prop := Claim7.holds Tryd.pinned (.plain (OpenSpec.ofChange fnPktStrictSpec)) fnPktStrictCard

/-- THE SECOND FORM's CARD OF 'laws.FnPktBack'. -/
def fnPktBackUptoCard : Claim7 := { stood := { row := fnPktBackUptoRow, standIns := [], harness := (true, "ae169a46b38145d5fed22f32d7d944a1be1ae36eb2db4ed7feefbd227703ae30"), looks := true }, kinds := [], alts := [], laidByText := true, laidKinds := [.data, .data, .data, .data, .sentinel, .sentinel, .pinned], laidTests := true, laidLooks := .later }
def FnPktBackUptoCardSaid : Prop := Claim7.holds Tryd.pinned (.plain (OpenSpec.upto fnPktBackSpec)) fnPktBackUptoCard

/-- THE SECOND FORM's CARD OF 'laws.FnPktCut'. -/
def fnPktCutUptoCard : Claim7 := { stood := { row := fnPktCutUptoRow, standIns := [], harness := (true, "ae169a46b38145d5fed22f32d7d944a1be1ae36eb2db4ed7feefbd227703ae30"), looks := true }, kinds := [], alts := [], laidByText := true, laidKinds := [.data, .data, .data, .data, .sentinel, .sentinel, .pinned], laidTests := true, laidLooks := .later }
def FnPktCutUptoCardSaid : Prop := Claim7.holds Tryd.pinned (.plain (OpenSpec.upto fnPktCutSpec)) fnPktCutUptoCard

/-- THE SECOND FORM's CARD OF 'laws.FnExactPktRead'. -/
def fnExactPktReadUptoCard : Claim7 := { stood := { row := fnExactPktReadUptoRow, standIns := [], harness := (true, "ae169a46b38145d5fed22f32d7d944a1be1ae36eb2db4ed7feefbd227703ae30"), looks := true }, kinds := [], alts := [], laidByText := true, laidKinds := [.data, .data, .data, .data, .sentinel, .sentinel, .pinned], laidTests := true, laidLooks := .later }
def FnExactPktReadUptoCardSaid : Prop := Claim7.holds Tryd.pinned (.plain (OpenSpec.upto fnExactPktReadSpec)) fnExactPktReadUptoCard

/-- THE SECOND FORM's CARD OF 'laws.FnPktStrict'. -/
def fnPktStrictUptoCard : Claim7 := { stood := { row := fnPktStrictUptoRow, standIns := [], harness := (true, "ae169a46b38145d5fed22f32d7d944a1be1ae36eb2db4ed7feefbd227703ae30"), looks := true }, kinds := [], alts := [], laidByText := true, laidKinds := [.data, .data, .data, .data, .sentinel, .sentinel, .pinned], laidTests := true, laidLooks := .later }
def FnPktStrictUptoCardSaid : Prop := Claim7.holds Tryd.pinned (.plain (OpenSpec.upto fnPktStrictSpec)) fnPktStrictUptoCard
end Rows
end Go.Proofs.YtejpgpjjocbbjaaDoor
