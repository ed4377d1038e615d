/- The law FnExactEndDoor holds: called with whatever arguments it returns true, and leaves them as they were. No condition but the given row's own. -/
import Derived.Test.YthjhgefopkkkdaaRows
import Derived.Test.YthjhgefopkkkdaaAx3
import Derived.Test.YthjhgefopkkkdaaPureFnExactEndDoor
import Derived.WalkKit
import Derived.ProofKit
import Derived.OpenShut
import Derived.ShutString
import Derived.ChangeOld
import Derived.Below
import Derived.SizedLaws
import Derived.Lib.SmallJoins
import Derived.Test.YthjhgefopkkkdaaWSized
namespace Go.Proofs.Ythjhgefopkkkdaa.fnExactEndDoor
open Go Go.ChangeShapes Go.WideShapes Go.ChangeAt Go.RowKit Go.Proofs.YthjhgefopkkkdaaW.PrintWords
open Go.ChangeMaps (open_string shut_string)
set_option linter.unusedVariables false
set_option linter.unusedSimpArgs false
theorem own : ownKnob Try.prog.godebug = none := by kernel_rfl
theorem laidOut : laidOutB Try.prog = true := by kernel_rfl
theorem cells3 : Try.prog.cellsOf 3 = 1 := by kernel_rfl
theorem cells24 : Try.prog.cellsOf 24 = 2 := by kernel_rfl
def IsRow (k : IntKind) (w : World) (a : Option Addr) (len cap : Nat) (zs : List Int) : Prop :=
  (a = none ∧ len = 0 ∧ cap = 0 ∧ zs = []) ∨
  ∃ x, a = some x ∧ len ≤ cap ∧ cap ≤ maxLen ∧ zs.length = cap ∧ (∀ i, i < zs.length → w.cell? (x.add i) = some (.int k (zs.getD i 0))) ∧ ∀ n ∈ zs, (Lit.int k n).wf = true
theorem arr2 {α : Type} {cs : Array α} (h : cs.size = 2) : ∃ c0 c1, cs = #[c0, c1] := by
  obtain ⟨l⟩ := cs
  match l, h with
  | [c0, c1], _ => exact ⟨c0, c1, rfl⟩
theorem lst2 {α : Type} {cs : List α} (h : cs.length = 2) : ∃ c0 c1, cs = [c0, c1] := by
  match cs, h with
  | [c0, c1], _ => exact ⟨c0, c1, rfl⟩
set_option maxRecDepth 100000 in
set_option maxHeartbeats 1000000 in
theorem lifted (os : Os) (started : os.Started) (H : Type) (enc : TypeId × Value → H) :
    ReturnsInHanded {} Try.checked os 4 .any (Rows.fnExactEndDoorSpec.pre6 enc Try.prog Try.f4 Rows.fnExactEndDoorRow.domain false) (Rows.fnExactEndDoorSpec.post enc Try.prog Try.f4 false true false false) := by
  refine returnsInHanded_of_change_sized (C := Try.checked) own started (by kernel_rfl) Try.func4
    (ChangeSpec.witness6 (enc := enc) (C := Try.checked) false ⟨#[], #[.agg #[.int .i64 0, .int .i64 0]], []⟩ 8 (by kernel_rfl) (by kernel_rfl) (by kernel_rfl) (by kernel_rfl)) ?_
  intro W base args ds gs before hval0 hW hcnd hsz0 _
  have hsz : (DataW.weightsEach Try.prog (Try.f4.params.toList ++ Rows.fnExactEndDoorSpec.plain.varTypes Try.prog) (ds ++ gs)).all (· ≤ reachBytes) = true := hsz0
  have hval : ∀ (j : Nat) t v, Try.f4.params[j]? = some t → args[j]? = some v → Value.okWide Try.prog W .any base t v := hval0
  have hW' := hW
  obtain ⟨p, q, hA0, hV, rfl, hfz, hnd⟩ := hW
  have hA : DataW.TrodAll enc Try.prog W 0 (fun _ => true) true Try.f4.params.toList args.toList ds p := hA0
  rw [Try.params4] at hA hval hsz
  obtain ⟨v0, vs0, d0, ds0, p0, q0, hargs, rfl, rfl, h0, r0⟩ := trodAll_cons hA
  obtain ⟨rfl, rfl, rfl⟩ := trodAll_nil r0
  obtain rfl : args = #[v0] := by cases args; simp_all
  obtain ⟨rfl, rfl⟩ := trodVars_none hV
  have k0 := h0
  have lt0 : ∀ x ∈ p0, x.block < W.heap.size := by obtain ⟨m, hm⟩ := k0; exact DataW.trod_lt m _ _ _ hm
  obtain ⟨cs0, rfl, hc0⟩ := okWide_struct Try.underlying24 (hval 0 24 v0 rfl rfl)
  obtain ⟨c0_0, c0_1, rfl⟩ := arr2 (hc0.trans cells24)
  obtain ⟨fu0, ht0⟩ := h0
  have hs0 : DataW.trod enc Try.prog W 0 (fun _ => true) true fu0 24 [c0_0, c0_1] = some (d0, p0) := by simpa [Value.cells] using ht0
  obtain ⟨xs1, n1, _, _, _, hl1, hf1⟩ := DataW.trod_struct Try.underlying24 hs0
  obtain ⟨y1_0, y1_1, rfl⟩ := lst2 (hl1.trans rfl)
  have g1_0 : DataW.trod enc Try.prog W 0 (fun _ => true) true n1 3 [c0_0] = some y1_0 := by simpa [cells3, cells24] using hf1 0 _ rfl
  obtain ⟨a0_0, e_, _, wa0_0⟩ := DataW.trod_int Try.underlying3 g1_0
  obtain rfl : c0_0 = .int .i64 a0_0 := by simpa using e_
  have g1_1 : DataW.trod enc Try.prog W 0 (fun _ => true) true n1 3 [c0_1] = some y1_1 := by simpa [cells3, cells24] using hf1 1 _ rfl
  obtain ⟨a0_1, e_, _, wa0_1⟩ := DataW.trod_int Try.underlying3 g1_1
  obtain rfl : c0_1 = .int .i64 a0_1 := by simpa using e_
  clear hA0 hval0 hsz0 hsz
  have hp := Pure.FnExactEndDoor a0_0 a0_1 wa0_0 wa0_1
  refine (A.laws_FnExactEndDoor.calls a0_0 a0_1 true W hp).mono fun e W' ⟨he, bel⟩ => ?_
  subst he
  exact ⟨_, rfl, _, _, _, [], _, [], hW', trodAll_mk1 (shut_bool Try.underlying4 _), (trodAll_cons_mk (Below.trod laidOut (by kernel_rfl) (of_decide_eq_true (by kernel_rfl)) k0 bel lt0) trodAll_mk0), rfl, bel.frame _, fun h => by cases h⟩
theorem over : Rows.fnExactEndDoorRow.holds Try.pinned (OpenSpec.ofChange Rows.fnExactEndDoorSpec) :=
  OpenClaim.holds_of_wide 4 Try.f4 rfl rfl rfl rfl rfl rfl rfl ⟨rfl, rfl, rfl, rfl, rfl⟩ rfl rfl rfl rfl rfl (by kernel_rfl) Try.func4 (by kernel_rfl)
    (of_decide_eq_true (by kernel_rfl)) (by unfold Func.isWrapper; first | (rw [if_pos (by decide +kernel)]; kernel_rfl) | (rw [if_neg (by decide +kernel)]; exact ⟨rfl, rfl⟩))
    (fun os started H enc _ => lifted os started H enc)
end Go.Proofs.Ythjhgefopkkkdaa.fnExactEndDoor
namespace Go.Proofs.Ythjhgefopkkkdaa
/-- The statement, under a short name, for the claim. -/
theorem fnExactEndDoor_holds : Rows.FnExactEndDoorSaid := fnExactEndDoor.over
#print axioms fnExactEndDoor_holds
end Go.Proofs.Ythjhgefopkkkdaa
