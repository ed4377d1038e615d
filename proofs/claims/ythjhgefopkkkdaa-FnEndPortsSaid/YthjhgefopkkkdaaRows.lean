/-
  No cell of these rows narrows 'for every input' (looked for: loops, veiled, ifaces, maps, wideKeys, modest, calm, conditions, laid).
  DERIVED. THE GIVEN ROWS OF THIS SEAT. 11 by the template 'for every input the law returns true; each argument reads behind the call as it read before'; 0 by the template 'total and deterministic' (their statements: YthjhgefopkkkdaaTotals.lean).
  GIVEN WITH THE SEED: the statements are not yours to turn. If you find one false, say at which input.
  Laid BY PROGRAM, IN A SANDBOX (cutbox-rows.mjs): the forced cells as the released guide's own fill.sh prints them over the translation 30a1e5c921a47643… (all of the seat's roots in one cut). By AI agents, Wed Nov 11 2026. No macro, syntax, notation, axiom, sorry.
-/
import Derived.Test.YthjhgefopkkkdaaChecked
import GoSem.Claim
import GoSem.ClaimJoined
import GoSem.ClaimMapViews
import Derived.JoinedTies
import Derived.KernelRfl
namespace Go.Proofs.Ythjhgefopkkkdaa
/- THE CELL 'sum', in the pinned program and in every row, IS THE sha256 OF THE DUMP (.gsa) THAT YthjhgefopkkkdaaProg.lean LOADS. Nothing in Lean hashes anything: it is a label: what it is worth is what the hold of that sum in a sandbox is worth. -/
noncomputable def Try.pinned : Pinned := { name := "ythjhgefopkkkdaa", sum := "30a1e5c921a47643aa95a09fe018f47b51ee81b891b2e5c569a1b88701c8014d", checked := Try.checked }
namespace Rows
def none {H : Type} : Left H := { results := [], args := [] }

/-- 'laws.FnExactConstants': WHATEVER THE INPUT: true; the input reads as it did. -/
def fnExactConstantsSpec : ChangeSpec := { name := "fnExactConstants", fn := fun _ => fun
  | [] => { results := [.lit (.bool true)], args := [] }
  | _ => none }
def fnExactConstantsRow : OpenClaim := { program := "ythjhgefopkkkdaa", sum := "30a1e5c921a47643aa95a09fe018f47b51ee81b891b2e5c569a1b88701c8014d", func := "loop.example/ostiary/laws.FnExactConstants", spec := "fnExactConstants", apart := false }
def FnExactConstantsSaid : Prop := fnExactConstantsRow.holds Try.pinned (OpenSpec.ofChange fnExactConstantsSpec)

/-- ITS FALSE NEIGHBOUR: 'it returns false'. Refute it at one input. -/
def fnExactConstantsWrong : ChangeSpec := { name := "fnExactConstants", fn := fun _ => fun
  | [] => { results := [.lit (.bool false)], args := [] }
  | _ => none }
def FnExactConstantsWrongFalsely : Prop := fnExactConstantsRow.holds Try.pinned (OpenSpec.ofChange fnExactConstantsWrong)

/-- 'laws.FnExactEndDoor': WHATEVER THE INPUT: true; the input reads as it did. -/
def fnExactEndDoorSpec : ChangeSpec := { name := "fnExactEndDoor", fn := fun _ => fun
  | [d] => { results := [.lit (.bool true)], args := [d] }
  | _ => none }
def fnExactEndDoorRow : OpenClaim := { program := "ythjhgefopkkkdaa", sum := "30a1e5c921a47643aa95a09fe018f47b51ee81b891b2e5c569a1b88701c8014d", func := "loop.example/ostiary/laws.FnExactEndDoor", spec := "fnExactEndDoor", apart := false }
def FnExactEndDoorSaid : Prop := fnExactEndDoorRow.holds Try.pinned (OpenSpec.ofChange fnExactEndDoorSpec)

/-- ITS FALSE NEIGHBOUR: 'it returns false'. Refute it at one input. -/
def fnExactEndDoorWrong : ChangeSpec := { name := "fnExactEndDoor", fn := fun _ => fun
  | [d] => { results := [.lit (.bool false)], args := [d] }
  | _ => none }
def FnExactEndDoorWrongFalsely : Prop := fnExactEndDoorRow.holds Try.pinned (OpenSpec.ofChange fnExactEndDoorWrong)

/-- 'laws.FnExactEndInside': WHATEVER THE INPUT: true; the input reads as it did. -/
def fnExactEndInsideSpec : ChangeSpec := { name := "fnExactEndInside", fn := fun _ => fun
  | [d] => { results := [.lit (.bool true)], args := [d] }
  | _ => none }
def fnExactEndInsideRow : OpenClaim := { program := "ythjhgefopkkkdaa", sum := "30a1e5c921a47643aa95a09fe018f47b51ee81b891b2e5c569a1b88701c8014d", func := "loop.example/ostiary/laws.FnExactEndInside", spec := "fnExactEndInside", apart := false }
def FnExactEndInsideSaid : Prop := fnExactEndInsideRow.holds Try.pinned (OpenSpec.ofChange fnExactEndInsideSpec)

/-- ITS FALSE NEIGHBOUR: 'it returns false'. Refute it at one input. -/
def fnExactEndInsideWrong : ChangeSpec := { name := "fnExactEndInside", fn := fun _ => fun
  | [d] => { results := [.lit (.bool false)], args := [d] }
  | _ => none }
def FnExactEndInsideWrongFalsely : Prop := fnExactEndInsideRow.holds Try.pinned (OpenSpec.ofChange fnExactEndInsideWrong)

/-- 'laws.FnExactEndOutside': WHATEVER THE INPUT: true; the input reads as it did. -/
def fnExactEndOutsideSpec : ChangeSpec := { name := "fnExactEndOutside", fn := fun _ => fun
  | [d] => { results := [.lit (.bool true)], args := [d] }
  | _ => none }
def fnExactEndOutsideRow : OpenClaim := { program := "ythjhgefopkkkdaa", sum := "30a1e5c921a47643aa95a09fe018f47b51ee81b891b2e5c569a1b88701c8014d", func := "loop.example/ostiary/laws.FnExactEndOutside", spec := "fnExactEndOutside", apart := false }
def FnExactEndOutsideSaid : Prop := fnExactEndOutsideRow.holds Try.pinned (OpenSpec.ofChange fnExactEndOutsideSpec)

/-- ITS FALSE NEIGHBOUR: 'it returns false'. Refute it at one input. -/
def fnExactEndOutsideWrong : ChangeSpec := { name := "fnExactEndOutside", fn := fun _ => fun
  | [d] => { results := [.lit (.bool false)], args := [d] }
  | _ => none }
def FnExactEndOutsideWrongFalsely : Prop := fnExactEndOutsideRow.holds Try.pinned (OpenSpec.ofChange fnExactEndOutsideWrong)

/-- 'laws.FnExactTextOk': WHATEVER THE INPUT: true; the input reads as it did. -/
def fnExactTextOkSpec : ChangeSpec := { name := "fnExactTextOk", fn := fun _ => fun
  | [d] => { results := [.lit (.bool true)], args := [d] }
  | _ => none }
def fnExactTextOkRow : OpenClaim := { program := "ythjhgefopkkkdaa", sum := "30a1e5c921a47643aa95a09fe018f47b51ee81b891b2e5c569a1b88701c8014d", func := "loop.example/ostiary/laws.FnExactTextOk", spec := "fnExactTextOk", apart := false }
def FnExactTextOkSaid : Prop := fnExactTextOkRow.holds Try.pinned (OpenSpec.ofChange fnExactTextOkSpec)

/-- ITS FALSE NEIGHBOUR: 'it returns false'. Refute it at one input. -/
def fnExactTextOkWrong : ChangeSpec := { name := "fnExactTextOk", fn := fun _ => fun
  | [d] => { results := [.lit (.bool false)], args := [d] }
  | _ => none }
def FnExactTextOkWrongFalsely : Prop := fnExactTextOkRow.holds Try.pinned (OpenSpec.ofChange fnExactTextOkWrong)

/-- 'laws.FnEndPorts': WHATEVER THE INPUT: true; the input reads as it did. -/
def fnEndPortsSpec : ChangeSpec := { name := "fnEndPorts", fn := fun _ => fun
  | [d1, d2] => { results := [.lit (.bool true)], args := [d1, d2] }
  | _ => none }
def fnEndPortsRow : OpenClaim := { program := "ythjhgefopkkkdaa", sum := "30a1e5c921a47643aa95a09fe018f47b51ee81b891b2e5c569a1b88701c8014d", func := "loop.example/ostiary/laws.FnEndPorts", spec := "fnEndPorts", apart := false }
def FnEndPortsSaid : Prop := fnEndPortsRow.holds Try.pinned (OpenSpec.ofChange fnEndPortsSpec)

/-- ITS FALSE NEIGHBOUR: 'it returns false'. Refute it at one input. -/
def fnEndPortsWrong : ChangeSpec := { name := "fnEndPorts", fn := fun _ => fun
  | [d1, d2] => { results := [.lit (.bool false)], args := [d1, d2] }
  | _ => none }
def FnEndPortsWrongFalsely : Prop := fnEndPortsRow.holds Try.pinned (OpenSpec.ofChange fnEndPortsWrong)

/-- 'laws.FnExactTextHeld': WHATEVER THE INPUT: true; the input reads as it did. -/
def fnExactTextHeldSpec : ChangeSpec := { name := "fnExactTextHeld", fn := fun _ => fun
  | [d] => { results := [.lit (.bool true)], args := [d] }
  | _ => none }
def fnExactTextHeldRow : OpenClaim := { program := "ythjhgefopkkkdaa", sum := "30a1e5c921a47643aa95a09fe018f47b51ee81b891b2e5c569a1b88701c8014d", func := "loop.example/ostiary/laws.FnExactTextHeld", spec := "fnExactTextHeld", apart := false }
def FnExactTextHeldSaid : Prop := fnExactTextHeldRow.holds Try.pinned (OpenSpec.ofChange fnExactTextHeldSpec)

/-- ITS FALSE NEIGHBOUR: 'it returns false'. Refute it at one input. -/
def fnExactTextHeldWrong : ChangeSpec := { name := "fnExactTextHeld", fn := fun _ => fun
  | [d] => { results := [.lit (.bool false)], args := [d] }
  | _ => none }
def FnExactTextHeldWrongFalsely : Prop := fnExactTextHeldRow.holds Try.pinned (OpenSpec.ofChange fnExactTextHeldWrong)

/-- 'laws.FnExactPktOk': WHATEVER THE INPUT: true; the input reads as it did. -/
def fnExactPktOkSpec : ChangeSpec := { name := "fnExactPktOk", fn := fun _ => fun
  | [d] => { results := [.lit (.bool true)], args := [d] }
  | _ => none }
def fnExactPktOkRow : OpenClaim := { program := "ythjhgefopkkkdaa", sum := "30a1e5c921a47643aa95a09fe018f47b51ee81b891b2e5c569a1b88701c8014d", func := "loop.example/ostiary/laws.FnExactPktOk", spec := "fnExactPktOk", apart := false }
def FnExactPktOkSaid : Prop := fnExactPktOkRow.holds Try.pinned (OpenSpec.ofChange fnExactPktOkSpec)

/-- ITS FALSE NEIGHBOUR: 'it returns false'. Refute it at one input. -/
def fnExactPktOkWrong : ChangeSpec := { name := "fnExactPktOk", fn := fun _ => fun
  | [d] => { results := [.lit (.bool false)], args := [d] }
  | _ => none }
def FnExactPktOkWrongFalsely : Prop := fnExactPktOkRow.holds Try.pinned (OpenSpec.ofChange fnExactPktOkWrong)

/-- 'laws.FnTextCut': WHATEVER THE INPUT: true; the input reads as it did. -/
def fnTextCutSpec : ChangeSpec := { name := "fnTextCut", fn := fun _ => fun
  | [d1, d2] => { results := [.lit (.bool true)], args := [d1, d2] }
  | _ => none }
def fnTextCutRow : OpenClaim := { program := "ythjhgefopkkkdaa", sum := "30a1e5c921a47643aa95a09fe018f47b51ee81b891b2e5c569a1b88701c8014d", func := "loop.example/ostiary/laws.FnTextCut", spec := "fnTextCut", recurses := true, apart := false }
def FnTextCutSaid : Prop := fnTextCutRow.holds Try.pinned (OpenSpec.ofChange fnTextCutSpec)

/-- ITS FALSE NEIGHBOUR: 'it returns false'. Refute it at one input. -/
def fnTextCutWrong : ChangeSpec := { name := "fnTextCut", fn := fun _ => fun
  | [d1, d2] => { results := [.lit (.bool false)], args := [d1, d2] }
  | _ => none }
def FnTextCutWrongFalsely : Prop := fnTextCutRow.holds Try.pinned (OpenSpec.ofChange fnTextCutWrong)

/-- 'laws.FnPktAt': WHATEVER THE INPUT: true; the input reads as it did. -/
def fnPktAtSpec : ChangeSpec := { name := "fnPktAt", fn := fun _ => fun
  | [d1, d2] => { results := [.lit (.bool true)], args := [d1, d2] }
  | _ => none }
def fnPktAtRow : OpenClaim := { program := "ythjhgefopkkkdaa", sum := "30a1e5c921a47643aa95a09fe018f47b51ee81b891b2e5c569a1b88701c8014d", func := "loop.example/ostiary/laws.FnPktAt", spec := "fnPktAt", recurses := true, apart := false }
def FnPktAtSaid : Prop := fnPktAtRow.holds Try.pinned (OpenSpec.ofChange fnPktAtSpec)

/-- ITS FALSE NEIGHBOUR: 'it returns false'. Refute it at one input. -/
def fnPktAtWrong : ChangeSpec := { name := "fnPktAt", fn := fun _ => fun
  | [d1, d2] => { results := [.lit (.bool false)], args := [d1, d2] }
  | _ => none }
def FnPktAtWrongFalsely : Prop := fnPktAtRow.holds Try.pinned (OpenSpec.ofChange fnPktAtWrong)

/-- 'laws.FnPktForm': WHATEVER THE INPUT: true; the input reads as it did. -/
def fnPktFormSpec : ChangeSpec := { name := "fnPktForm", fn := fun _ => fun
  | [d] => { results := [.lit (.bool true)], args := [d] }
  | _ => none }
def fnPktFormRow : OpenClaim := { program := "ythjhgefopkkkdaa", sum := "30a1e5c921a47643aa95a09fe018f47b51ee81b891b2e5c569a1b88701c8014d", func := "loop.example/ostiary/laws.FnPktForm", spec := "fnPktForm", recurses := true, apart := false }
def FnPktFormSaid : Prop := fnPktFormRow.holds Try.pinned (OpenSpec.ofChange fnPktFormSpec)

/-- ITS FALSE NEIGHBOUR: 'it returns false'. Refute it at one input. -/
def fnPktFormWrong : ChangeSpec := { name := "fnPktForm", fn := fun _ => fun
  | [d] => { results := [.lit (.bool false)], args := [d] }
  | _ => none }
def FnPktFormWrongFalsely : Prop := fnPktFormRow.holds Try.pinned (OpenSpec.ofChange fnPktFormWrong)

/- THE SECOND FORM. 'bulk': how many values and letters a reading holds, each counted each time it is reached (what is shared counts as often as it is met; a slice's spare places count too). A statement '..UptoSaid' is the law's where the arguments, and the package variables that the reading takes, are together of bulk at most 1048576: NARROWER than '..Said'. Prove '..Said' where nothing that the law and all that it calls make is longer than what came in: it says more and counts as full. Else prove '..UptoSaid'. A law counts once. -/
mutual
def uptoBulk {H : Type} : DataW H → Nat
  | .lit (.string bytes) => bytes.length + 1
  | .lit _ => 1
  | .nil => 1
  | .ptr d => uptoBulk d + 1
  | .slice elems spare => uptoBulkAll elems + uptoBulkAll spare + 1
  | .agg parts => uptoBulkAll parts + 1
  | .iface _ d => uptoBulk d + 1
  | .map entries => uptoBulkEntries entries + 1
  | .held _ => 1
def uptoBulkAll {H : Type} : List (DataW H) → Nat
  | [] => 0
  | d :: r => uptoBulk d + uptoBulkAll r
def uptoBulkEntries {H : Type} : List (Lit × DataW H) → Nat
  | [] => 0
  | x :: r => uptoBulkEntry x + uptoBulkEntries r
def uptoBulkEntry {H : Type} : Lit × DataW H → Nat
  | (.string bytes, d) => bytes.length + uptoBulk d + 1
  | (_, d) => uptoBulk d + 1
 end
def uptoSmall : (H : Type) → List (DataW H) → Bool := fun _ ds => decide (uptoBulkAll ds ≤ 1048576)
def OpenSpec.upto (s : _root_.Go.ChangeSpec) : _root_.Go.OpenSpec := { _root_.Go.OpenSpec.ofChange s with cond := some uptoSmall }

/-- 'laws.FnExactConstants', WHERE WHAT IT READS IS OF BULK AT MOST 1048576: true; the input reads as it did. -/
def fnExactConstantsUptoRow : OpenClaim := { program := "ythjhgefopkkkdaa", sum := "30a1e5c921a47643aa95a09fe018f47b51ee81b891b2e5c569a1b88701c8014d", func := "loop.example/ostiary/laws.FnExactConstants", spec := "fnExactConstants", apart := false, narrowed := true }
def FnExactConstantsUptoSaid : Prop := fnExactConstantsUptoRow.holds Try.pinned (OpenSpec.upto fnExactConstantsSpec)

/-- 'laws.FnExactEndDoor', WHERE WHAT IT READS IS OF BULK AT MOST 1048576: true; the input reads as it did. -/
def fnExactEndDoorUptoRow : OpenClaim := { program := "ythjhgefopkkkdaa", sum := "30a1e5c921a47643aa95a09fe018f47b51ee81b891b2e5c569a1b88701c8014d", func := "loop.example/ostiary/laws.FnExactEndDoor", spec := "fnExactEndDoor", apart := false, narrowed := true }
def FnExactEndDoorUptoSaid : Prop := fnExactEndDoorUptoRow.holds Try.pinned (OpenSpec.upto fnExactEndDoorSpec)

/-- 'laws.FnExactEndInside', WHERE WHAT IT READS IS OF BULK AT MOST 1048576: true; the input reads as it did. -/
def fnExactEndInsideUptoRow : OpenClaim := { program := "ythjhgefopkkkdaa", sum := "30a1e5c921a47643aa95a09fe018f47b51ee81b891b2e5c569a1b88701c8014d", func := "loop.example/ostiary/laws.FnExactEndInside", spec := "fnExactEndInside", apart := false, narrowed := true }
def FnExactEndInsideUptoSaid : Prop := fnExactEndInsideUptoRow.holds Try.pinned (OpenSpec.upto fnExactEndInsideSpec)

/-- 'laws.FnExactEndOutside', WHERE WHAT IT READS IS OF BULK AT MOST 1048576: true; the input reads as it did. -/
def fnExactEndOutsideUptoRow : OpenClaim := { program := "ythjhgefopkkkdaa", sum := "30a1e5c921a47643aa95a09fe018f47b51ee81b891b2e5c569a1b88701c8014d", func := "loop.example/ostiary/laws.FnExactEndOutside", spec := "fnExactEndOutside", apart := false, narrowed := true }
def FnExactEndOutsideUptoSaid : Prop := fnExactEndOutsideUptoRow.holds Try.pinned (OpenSpec.upto fnExactEndOutsideSpec)

/-- 'laws.FnExactTextOk', WHERE WHAT IT READS IS OF BULK AT MOST 1048576: true; the input reads as it did. -/
def fnExactTextOkUptoRow : OpenClaim := { program := "ythjhgefopkkkdaa", sum := "30a1e5c921a47643aa95a09fe018f47b51ee81b891b2e5c569a1b88701c8014d", func := "loop.example/ostiary/laws.FnExactTextOk", spec := "fnExactTextOk", apart := false, narrowed := true }
def FnExactTextOkUptoSaid : Prop := fnExactTextOkUptoRow.holds Try.pinned (OpenSpec.upto fnExactTextOkSpec)

/-- 'laws.FnEndPorts', WHERE WHAT IT READS IS OF BULK AT MOST 1048576: true; the input reads as it did. -/
def fnEndPortsUptoRow : OpenClaim := { program := "ythjhgefopkkkdaa", sum := "30a1e5c921a47643aa95a09fe018f47b51ee81b891b2e5c569a1b88701c8014d", func := "loop.example/ostiary/laws.FnEndPorts", spec := "fnEndPorts", apart := false, narrowed := true }
def FnEndPortsUptoSaid : Prop := fnEndPortsUptoRow.holds Try.pinned (OpenSpec.upto fnEndPortsSpec)

/-- 'laws.FnExactTextHeld', WHERE WHAT IT READS IS OF BULK AT MOST 1048576: true; the input reads as it did. -/
def fnExactTextHeldUptoRow : OpenClaim := { program := "ythjhgefopkkkdaa", sum := "30a1e5c921a47643aa95a09fe018f47b51ee81b891b2e5c569a1b88701c8014d", func := "loop.example/ostiary/laws.FnExactTextHeld", spec := "fnExactTextHeld", apart := false, narrowed := true }
def FnExactTextHeldUptoSaid : Prop := fnExactTextHeldUptoRow.holds Try.pinned (OpenSpec.upto fnExactTextHeldSpec)

/-- 'laws.FnExactPktOk', WHERE WHAT IT READS IS OF BULK AT MOST 1048576: true; the input reads as it did. -/
def fnExactPktOkUptoRow : OpenClaim := { program := "ythjhgefopkkkdaa", sum := "30a1e5c921a47643aa95a09fe018f47b51ee81b891b2e5c569a1b88701c8014d", func := "loop.example/ostiary/laws.FnExactPktOk", spec := "fnExactPktOk", apart := false, narrowed := true }
def FnExactPktOkUptoSaid : Prop := fnExactPktOkUptoRow.holds Try.pinned (OpenSpec.upto fnExactPktOkSpec)

/-- 'laws.FnTextCut', WHERE WHAT IT READS IS OF BULK AT MOST 1048576: true; the input reads as it did. -/
def fnTextCutUptoRow : OpenClaim := { program := "ythjhgefopkkkdaa", sum := "30a1e5c921a47643aa95a09fe018f47b51ee81b891b2e5c569a1b88701c8014d", func := "loop.example/ostiary/laws.FnTextCut", spec := "fnTextCut", recurses := true, apart := false, narrowed := true }
def FnTextCutUptoSaid : Prop := fnTextCutUptoRow.holds Try.pinned (OpenSpec.upto fnTextCutSpec)

/-- 'laws.FnPktAt', WHERE WHAT IT READS IS OF BULK AT MOST 1048576: true; the input reads as it did. -/
def fnPktAtUptoRow : OpenClaim := { program := "ythjhgefopkkkdaa", sum := "30a1e5c921a47643aa95a09fe018f47b51ee81b891b2e5c569a1b88701c8014d", func := "loop.example/ostiary/laws.FnPktAt", spec := "fnPktAt", recurses := true, apart := false, narrowed := true }
def FnPktAtUptoSaid : Prop := fnPktAtUptoRow.holds Try.pinned (OpenSpec.upto fnPktAtSpec)

/-- 'laws.FnPktForm', WHERE WHAT IT READS IS OF BULK AT MOST 1048576: true; the input reads as it did. -/
def fnPktFormUptoRow : OpenClaim := { program := "ythjhgefopkkkdaa", sum := "30a1e5c921a47643aa95a09fe018f47b51ee81b891b2e5c569a1b88701c8014d", func := "loop.example/ostiary/laws.FnPktForm", spec := "fnPktForm", recurses := true, apart := false, narrowed := true }
def FnPktFormUptoSaid : Prop := fnPktFormUptoRow.holds Try.pinned (OpenSpec.upto fnPktFormSpec)

end Rows
end Go.Proofs.Ythjhgefopkkkdaa
