/-
  DERIVED. GIVEN WITH THE SEED: THE CARDS: each row of YtclhmoghkcnkmaaDoorRows.lean that lists a variable, with what it lists TIED to the program's text (the seventh form; the later family's looks); each row that meets fmt, with fmt's text TOLD by the authors' own Lean function (tested against real Go, not proved from fmt's source: count such statements apart). THE CARD IS WHAT COUNTS. Prove the row's statement (the work); the ties are given (YtclhmoghkcnkmaaDoorTie.lean); close each card by the builder's one call (the guide's Derived/Test/ToyasCard.lean, 'card_holds'). Laid BY PROGRAM, IN A SANDBOX (cutbox-door.mjs). By AI agents, Wed Nov 11 2026. No macro, syntax, notation, axiom, sorry.
-/
import Derived.Test.YtclhmoghkcnkmaaDoorRows
import GoSem.ClaimSeven
namespace Go.Proofs.YtclhmoghkcnkmaaDoor
namespace Rows

/-- THE TIED CARD OF 'laws.FnExactTextPieces'. -/
def fnExactTextPiecesCard : Claim7 := { stood := { row := fnExactTextPiecesRow, standIns := [], harness := (true, "e6150ee002ac0d414eeefd74fecbf525098bc4b1467eeb25c57f61aa580a511d"), looks := true }, kinds := [], alts := [], laidByText := true, laidKinds := [.data, .data, .data, .sentinel, .sentinel], laidTests := true, laidLooks := .later }
def FnExactTextPiecesCardSaid : Prop := Claim7.holds Tryd.pinned (.plain (OpenSpec.ofChange fnExactTextPiecesSpec)) fnExactTextPiecesCard

/-- THE TIED CARD OF 'laws.FnNames'. -/
def fnNamesCard : Claim7 := { stood := { row := fnNamesRow, standIns := [], harness := (true, "e6150ee002ac0d414eeefd74fecbf525098bc4b1467eeb25c57f61aa580a511d"), looks := true }, kinds := [], alts := [], laidByText := true, laidKinds := [.data, .data, .data, .sentinel, .sentinel], laidTests := true, laidLooks := .later }
def FnNamesCardSaid : Prop := Claim7.holds Tryd.pinned (.plain (OpenSpec.ofChange fnNamesSpec)) fnNamesCard

/-- THE TIED CARD OF 'laws.FnPiecesMore'. -/
def fnPiecesMoreCard : Claim7 := { stood := { row := fnPiecesMoreRow, standIns := [], harness := (true, "e6150ee002ac0d414eeefd74fecbf525098bc4b1467eeb25c57f61aa580a511d"), looks := true }, kinds := [], alts := [], laidByText := true, laidKinds := [.data, .data, .data, .sentinel, .sentinel], laidTests := true, laidLooks := .later }
def FnPiecesMoreCardSaid : Prop := Claim7.holds Tryd.pinned (.plain (OpenSpec.ofChange fnPiecesMoreSpec)) fnPiecesMoreCard

/-- THE TIED CARD OF 'laws.FnPiecesSize'. -/
def fnPiecesSizeCard : Claim7 := { stood := { row := fnPiecesSizeRow, standIns := [], harness := (true, "e6150ee002ac0d414eeefd74fecbf525098bc4b1467eeb25c57f61aa580a511d"), looks := true }, kinds := [], alts := [], laidByText := true, laidKinds := [.data, .data, .data, .sentinel, .sentinel], laidTests := true, laidLooks := .later }
def FnPiecesSizeCardSaid : Prop := Claim7.holds Tryd.pinned (.plain (OpenSpec.ofChange fnPiecesSizeSpec)) fnPiecesSizeCard

/-- THE TIED CARD OF 'laws.FnPiecesAll'. -/
def fnPiecesAllCard : Claim7 := { stood := { row := fnPiecesAllRow, standIns := [], harness := (true, "e6150ee002ac0d414eeefd74fecbf525098bc4b1467eeb25c57f61aa580a511d"), looks := true }, kinds := [], alts := [], laidByText := true, laidKinds := [.data, .data, .data, .sentinel, .sentinel], laidTests := true, laidLooks := .later }
def FnPiecesAllCardSaid : Prop := Claim7.holds Tryd.pinned (.plain (OpenSpec.ofChange fnPiecesAllSpec)) fnPiecesAllCard

/-- THE TIED CARD OF 'laws.FnExactConvNew'. -/
def fnExactConvNewCard : Claim7 := { stood := { row := fnExactConvNewRow, standIns := [], harness := (true, "e6150ee002ac0d414eeefd74fecbf525098bc4b1467eeb25c57f61aa580a511d"), looks := true }, kinds := [], alts := [], laidByText := true, laidKinds := [.data, .data, .data, .sentinel, .sentinel], laidTests := true, laidLooks := .later }
def FnExactConvNewCardSaid : Prop := Claim7.holds Tryd.pinned (.plain (OpenSpec.ofChange fnExactConvNewSpec)) fnExactConvNewCard

/-- THE TIED CARD OF 'laws.FnTextNamed'. -/
def fnTextNamedCard : Claim7 := { stood := { row := fnTextNamedRow, standIns := [], harness := (true, "e6150ee002ac0d414eeefd74fecbf525098bc4b1467eeb25c57f61aa580a511d"), looks := true }, kinds := [], alts := [], laidByText := true, laidKinds := [.data, .data, .data, .sentinel, .sentinel], laidTests := true, laidLooks := .later }
def FnTextNamedCardSaid : Prop := Claim7.holds Tryd.pinned (.plain (OpenSpec.ofChange fnTextNamedSpec)) fnTextNamedCard

/-- THE TIED CARD OF 'laws.FnPiecesTwo'. -/
def fnPiecesTwoCard : Claim7 := { stood := { row := fnPiecesTwoRow, standIns := [], harness := (true, "e6150ee002ac0d414eeefd74fecbf525098bc4b1467eeb25c57f61aa580a511d"), looks := true }, kinds := [], alts := [], laidByText := true, laidKinds := [.data, .data, .data, .sentinel, .sentinel], laidTests := true, laidLooks := .later }
def FnPiecesTwoCardSaid : Prop := Claim7.holds Tryd.pinned (.plain (OpenSpec.ofChange fnPiecesTwoSpec)) fnPiecesTwoCard

/-- THE TIED CARD OF 'laws.FnNameIn'. -/
def fnNameInCard : Claim7 := { stood := { row := fnNameInRow, standIns := [], harness := (true, "e6150ee002ac0d414eeefd74fecbf525098bc4b1467eeb25c57f61aa580a511d"), looks := true }, kinds := [], alts := [], laidByText := true, laidKinds := [.data, .data, .data, .sentinel, .sentinel], laidTests := true, laidLooks := .later }
def FnNameInCardSaid : Prop := Claim7.holds Tryd.pinned (.plain (OpenSpec.ofChange fnNameInSpec)) fnNameInCard

/-- THE TIED CARD OF 'laws.FnExactConvOk'. -/
def fnExactConvOkCard : Claim7 := { stood := { row := fnExactConvOkRow, standIns := [], harness := (true, "e6150ee002ac0d414eeefd74fecbf525098bc4b1467eeb25c57f61aa580a511d"), looks := true }, kinds := [], alts := [], laidByText := true, laidKinds := [.data, .data, .data, .sentinel, .sentinel], laidTests := true, laidLooks := .later }
def FnExactConvOkCardSaid : Prop := Claim7.holds Tryd.pinned (.plain (OpenSpec.ofChange fnExactConvOkSpec)) fnExactConvOkCard

/-- THE TIED CARD OF 'laws.FnExactConvSay'. -/
def fnExactConvSayCard : Claim7 := { stood := { row := fnExactConvSayRow, standIns := [], harness := (true, "e6150ee002ac0d414eeefd74fecbf525098bc4b1467eeb25c57f61aa580a511d"), looks := true }, kinds := [], alts := [], laidByText := true, laidKinds := [.data, .data, .data, .sentinel, .sentinel], laidTests := true, laidLooks := .later }
def FnExactConvSayCardSaid : Prop := Claim7.holds Tryd.pinned (.plain (OpenSpec.ofChange fnExactConvSaySpec)) fnExactConvSayCard

/-- THE SECOND FORM's CARD OF 'laws.FnExactTextPieces'. -/
def fnExactTextPiecesUptoCard : Claim7 := { stood := { row := fnExactTextPiecesUptoRow, standIns := [], harness := (true, "e6150ee002ac0d414eeefd74fecbf525098bc4b1467eeb25c57f61aa580a511d"), looks := true }, kinds := [], alts := [], laidByText := true, laidKinds := [.data, .data, .data, .sentinel, .sentinel], laidTests := true, laidLooks := .later }
def FnExactTextPiecesUptoCardSaid : Prop := Claim7.holds Tryd.pinned (.plain (OpenSpec.upto fnExactTextPiecesSpec)) fnExactTextPiecesUptoCard

/-- THE SECOND FORM's CARD OF 'laws.FnNames'. -/
def fnNamesUptoCard : Claim7 := { stood := { row := fnNamesUptoRow, standIns := [], harness := (true, "e6150ee002ac0d414eeefd74fecbf525098bc4b1467eeb25c57f61aa580a511d"), looks := true }, kinds := [], alts := [], laidByText := true, laidKinds := [.data, .data, .data, .sentinel, .sentinel], laidTests := true, laidLooks := .later }
def FnNamesUptoCardSaid : Prop := Claim7.holds Tryd.pinned (.plain (OpenSpec.upto fnNamesSpec)) fnNamesUptoCard

/-- THE SECOND FORM's CARD OF 'laws.FnPiecesMore'. -/
def fnPiecesMoreUptoCard : Claim7 := { stood := { row := fnPiecesMoreUptoRow, standIns := [], harness := (true, "e6150ee002ac0d414eeefd74fecbf525098bc4b1467eeb25c57f61aa580a511d"), looks := true }, kinds := [], alts := [], laidByText := true, laidKinds := [.data, .data, .data, .sentinel, .sentinel], laidTests := true, laidLooks := .later }
def FnPiecesMoreUptoCardSaid : Prop := Claim7.holds Tryd.pinned (.plain (OpenSpec.upto fnPiecesMoreSpec)) fnPiecesMoreUptoCard

/-- THE SECOND FORM's CARD OF 'laws.FnPiecesSize'. -/
def fnPiecesSizeUptoCard : Claim7 := { stood := { row := fnPiecesSizeUptoRow, standIns := [], harness := (true, "e6150ee002ac0d414eeefd74fecbf525098bc4b1467eeb25c57f61aa580a511d"), looks := true }, kinds := [], alts := [], laidByText := true, laidKinds := [.data, .data, .data, .sentinel, .sentinel], laidTests := true, laidLooks := .later }
def FnPiecesSizeUptoCardSaid : Prop := Claim7.holds Tryd.pinned (.plain (OpenSpec.upto fnPiecesSizeSpec)) fnPiecesSizeUptoCard

/-- THE SECOND FORM's CARD OF 'laws.FnPiecesAll'. -/
def fnPiecesAllUptoCard : Claim7 := { stood := { row := fnPiecesAllUptoRow, standIns := [], harness := (true, "e6150ee002ac0d414eeefd74fecbf525098bc4b1467eeb25c57f61aa580a511d"), looks := true }, kinds := [], alts := [], laidByText := true, laidKinds := [.data, .data, .data, .sentinel, .sentinel], laidTests := true, laidLooks := .later }
def FnPiecesAllUptoCardSaid : Prop := Claim7.holds Tryd.pinned (.plain (OpenSpec.upto fnPiecesAllSpec)) fnPiecesAllUptoCard

/-- THE SECOND FORM's CARD OF 'laws.FnExactConvNew'. -/
def fnExactConvNewUptoCard : Claim7 := { stood := { row := fnExactConvNewUptoRow, standIns := [], harness := (true, "e6150ee002ac0d414eeefd74fecbf525098bc4b1467eeb25c57f61aa580a511d"), looks := true }, kinds := [], alts := [], laidByText := true, laidKinds := [.data, .data, .data, .sentinel, .sentinel], laidTests := true, laidLooks := .later }
def FnExactConvNewUptoCardSaid : Prop := Claim7.holds Tryd.pinned (.plain (OpenSpec.upto fnExactConvNewSpec)) fnExactConvNewUptoCard

/-- THE SECOND FORM's CARD OF 'laws.FnTextNamed'. -/
def fnTextNamedUptoCard : Claim7 := { stood := { row := fnTextNamedUptoRow, standIns := [], harness := (true, "e6150ee002ac0d414eeefd74fecbf525098bc4b1467eeb25c57f61aa580a511d"), looks := true }, kinds := [], alts := [], laidByText := true, laidKinds := [.data, .data, .data, .sentinel, .sentinel], laidTests := true, laidLooks := .later }
def FnTextNamedUptoCardSaid : Prop := Claim7.holds Tryd.pinned (.plain (OpenSpec.upto fnTextNamedSpec)) fnTextNamedUptoCard

/-- THE SECOND FORM's CARD OF 'laws.FnPiecesTwo'. -/
def fnPiecesTwoUptoCard : Claim7 := { stood := { row := fnPiecesTwoUptoRow, standIns := [], harness := (true, "e6150ee002ac0d414eeefd74fecbf525098bc4b1467eeb25c57f61aa580a511d"), looks := true }, kinds := [], alts := [], laidByText := true, laidKinds := [.data, .data, .data, .sentinel, .sentinel], laidTests := true, laidLooks := .later }
def FnPiecesTwoUptoCardSaid : Prop := Claim7.holds Tryd.pinned (.plain (OpenSpec.upto fnPiecesTwoSpec)) fnPiecesTwoUptoCard

/-- THE SECOND FORM's CARD OF 'laws.FnNameIn'. -/
def fnNameInUptoCard : Claim7 := { stood := { row := fnNameInUptoRow, standIns := [], harness := (true, "e6150ee002ac0d414eeefd74fecbf525098bc4b1467eeb25c57f61aa580a511d"), looks := true }, kinds := [], alts := [], laidByText := true, laidKinds := [.data, .data, .data, .sentinel, .sentinel], laidTests := true, laidLooks := .later }
def FnNameInUptoCardSaid : Prop := Claim7.holds Tryd.pinned (.plain (OpenSpec.upto fnNameInSpec)) fnNameInUptoCard

/-- THE SECOND FORM's CARD OF 'laws.FnExactConvOk'. -/
def fnExactConvOkUptoCard : Claim7 := { stood := { row := fnExactConvOkUptoRow, standIns := [], harness := (true, "e6150ee002ac0d414eeefd74fecbf525098bc4b1467eeb25c57f61aa580a511d"), looks := true }, kinds := [], alts := [], laidByText := true, laidKinds := [.data, .data, .data, .sentinel, .sentinel], laidTests := true, laidLooks := .later }
def FnExactConvOkUptoCardSaid : Prop := Claim7.holds Tryd.pinned (.plain (OpenSpec.upto fnExactConvOkSpec)) fnExactConvOkUptoCard

/-- THE SECOND FORM's CARD OF 'laws.FnExactConvSay'. -/
def fnExactConvSayUptoCard : Claim7 := { stood := { row := fnExactConvSayUptoRow, standIns := [], harness := (true, "e6150ee002ac0d414eeefd74fecbf525098bc4b1467eeb25c57f61aa580a511d"), looks := true }, kinds := [], alts := [], laidByText := true, laidKinds := [.data, .data, .data, .sentinel, .sentinel], laidTests := true, laidLooks := .later }
def FnExactConvSayUptoCardSaid : Prop := Claim7.holds Tryd.pinned (.plain (OpenSpec.upto fnExactConvSaySpec)) fnExactConvSayUptoCard
end Rows
end Go.Proofs.YtclhmoghkcnkmaaDoor
