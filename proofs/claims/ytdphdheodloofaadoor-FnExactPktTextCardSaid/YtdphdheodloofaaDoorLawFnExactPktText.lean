/- The law FnExactPktText holds: called with whatever arguments it returns true, and leaves them as they were. No condition but the given row's own. -/
import Derived.Test.YtdphdheodloofaaDoorRows
import Derived.Test.YtdphdheodloofaaDoorCards
import Derived.Test.YtdphdheodloofaaDoorTie
import Derived.Test.YtdphdheodloofaaDoorAx28
import Derived.Test.YtdphdheodloofaaDoorPureFnExactPktText
import Derived.WalkKit
import Derived.SevenTiedAt
import Derived.LaidMore
import Derived.Stop.Joined
import Derived.Stop.LaidErr
import Derived.ProofKit
import Derived.OpenShut
import Derived.ShutString
import Derived.ChangeOld
import Derived.Below
import Derived.SizedLaws
import Derived.Lib.SmallJoins
import Derived.Test.YtdphdheodloofaaDoorWSized
namespace Go.Proofs.YtdphdheodloofaaDoor.fnExactPktText
open Go Go.ChangeShapes Go.WideShapes Go.ChangeAt Go.RowKit Go.Proofs.YtdphdheodloofaaDoorW.PrintWords
open Go.ChangeMaps (open_string shut_string)
set_option linter.unusedVariables false
set_option linter.unusedSimpArgs false
/-- What the listed variables hold. -/
def laidL : List (String × DataW Unit) := [("math/bits.deBruijn32tab", Rows.laid_math_bits_deBruijn32tab), ("math/bits.deBruijn64tab", Rows.laid_math_bits_deBruijn64tab), ("internal/strconv.uint64pow10", Rows.laid_internal_strconv_uint64pow10)]
set_option maxRecDepth 100000 in
/-- The door's own heap meets the condition. -/
theorem door_met (os : Os) (args : Array Value) : laidMetH Tryd.prog laidL ((World.doorLaid Tryd.prog 400 os).forCall (fun _ _ => 0) ⟨#[], args, []⟩).memory :=
  laidMetH_of_parts3 (fuel := 8) (laidMet_of_run' 8 (by kernel_rfl) (by kernel_rfl)) (by kernel_rfl) (by kernel_rfl)
theorem own : ownKnob Tryd.prog.godebug = none := by kernel_rfl
theorem laidOut : laidOutB Tryd.prog = true := by kernel_rfl
theorem cells3 : Tryd.prog.cellsOf 3 = 1 := by kernel_rfl
theorem cells9 : Tryd.prog.cellsOf 9 = 1 := by kernel_rfl
theorem cells30 : Tryd.prog.cellsOf 30 = 2 := by kernel_rfl
theorem cells39 : Tryd.prog.cellsOf 39 = 7 := by kernel_rfl
def IsRow (k : IntKind) (w : World) (a : Option Addr) (len cap : Nat) (zs : List Int) : Prop :=
  (a = none ∧ len = 0 ∧ cap = 0 ∧ zs = []) ∨
  ∃ x, a = some x ∧ len ≤ cap ∧ cap ≤ maxLen ∧ zs.length = cap ∧ (∀ i, i < zs.length → w.cell? (x.add i) = some (.int k (zs.getD i 0))) ∧ ∀ n ∈ zs, (Lit.int k n).wf = true
theorem arr7 {α : Type} {cs : Array α} (h : cs.size = 7) : ∃ c0 c1 c2 c3 c4 c5 c6, cs = #[c0, c1, c2, c3, c4, c5, c6] := by
  obtain ⟨l⟩ := cs
  match l, h with
  | [c0, c1, c2, c3, c4, c5, c6], _ => exact ⟨c0, c1, c2, c3, c4, c5, c6, rfl⟩
theorem lst2 {α : Type} {cs : List α} (h : cs.length = 2) : ∃ c0 c1, cs = [c0, c1] := by
  match cs, h with
  | [c0, c1], _ => exact ⟨c0, c1, rfl⟩
theorem lst5 {α : Type} {cs : List α} (h : cs.length = 5) : ∃ c0 c1 c2 c3 c4, cs = [c0, c1, c2, c3, c4] := by
  match cs, h with
  | [c0, c1, c2, c3, c4], _ => exact ⟨c0, c1, c2, c3, c4, rfl⟩
set_option maxRecDepth 100000 in
set_option maxHeartbeats 1000000 in
theorem lifted (os : Os) (started : os.Started) (H : Type) (enc : TypeId × Value → H) :
    ReturnsInHanded {} Tryd.checked os 7 .any (fun w args => (Rows.fnExactPktTextSpec.pre enc Tryd.prog Tryd.f7 [] false w args ∧ laidMetH Tryd.prog laidL w) ∧ sizedMet enc Tryd.prog Tryd.f7 (OpenSpec.ofChange Rows.fnExactPktTextSpec) false w args) (Rows.fnExactPktTextSpec.post enc Tryd.prog Tryd.f7 false true false false) := by
  refine returnsInHanded_of_change_and (C := Tryd.checked) (X := fun w _ => laidMetH Tryd.prog laidL w) (fun _ _ _ hh h => h.of_heap hh) own started (by kernel_rfl) Tryd.func7
    (ChangeSpec.witness_shaped (enc := enc) (C := Tryd.checked) (os := os) (X := fun w _ => laidMetH Tryd.prog laidL w) false (World.doorLaid Tryd.prog 400 os) #[.agg #[.int .i64 0, .int .i64 0, .int .i64 0, .int .i64 0, .int .i64 0, .int .i64 0, .string ByteArray.empty]] 8 rfl (World.shaped_of_RefB (by kernel_rfl) (by kernel_rfl)) (by kernel_rfl) (by kernel_rfl) (by kernel_rfl) (door_met os _)) ?_
  intro W base args ds gs before hval0 hW hcnd hsz0 hL _
  have hsz : (DataW.weightsEach Tryd.prog (Tryd.f7.params.toList ++ Rows.fnExactPktTextSpec.plain.varTypes Tryd.prog) (ds ++ gs)).all (· ≤ reachBytes) = true := hsz0
  have hval : ∀ (j : Nat) t v, Tryd.f7.params[j]? = some t → args[j]? = some v → Value.okWide Tryd.prog W .any base t v := hval0
  have hW' := hW
  obtain ⟨p, q, hA0, hV, rfl, hfz, hnd⟩ := hW
  have hA : DataW.TrodAll enc Tryd.prog W 0 (fun _ => true) true Tryd.f7.params.toList args.toList ds p := hA0
  rw [Tryd.params7] at hA hval hsz
  obtain ⟨v0, vs0, d0, ds0, p0, q0, hargs, rfl, rfl, h0, r0⟩ := trodAll_cons hA
  obtain ⟨rfl, rfl, rfl⟩ := trodAll_nil r0
  obtain rfl : args = #[v0] := by cases args; simp_all
  obtain ⟨rfl, rfl⟩ := trodVars_none hV
  have k0 := h0
  have lt0 : ∀ x ∈ p0, x.block < W.heap.size := by obtain ⟨m, hm⟩ := k0; exact DataW.trod_lt m _ _ _ hm
  obtain ⟨cs0, rfl, hc0⟩ := okWide_struct Tryd.underlying39 (hval 0 39 v0 rfl rfl)
  obtain ⟨c0_0, c0_1, c0_2, c0_3, c0_4, c0_5, c0_6, rfl⟩ := arr7 (hc0.trans cells39)
  obtain ⟨fu0, ht0⟩ := h0
  have hs0 : DataW.trod enc Tryd.prog W 0 (fun _ => true) true fu0 39 [c0_0, c0_1, c0_2, c0_3, c0_4, c0_5, c0_6] = some (d0, p0) := by simpa [Value.cells] using ht0
  obtain ⟨xs1, n1, _, _, _, hl1, hf1⟩ := DataW.trod_struct Tryd.underlying39 hs0
  obtain ⟨y1_0, y1_1, y1_2, y1_3, y1_4, rfl⟩ := lst5 (hl1.trans rfl)
  have g1_0 : DataW.trod enc Tryd.prog W 0 (fun _ => true) true n1 3 [c0_0] = some y1_0 := by simpa [cells3, cells9, cells30, cells39] using hf1 0 _ rfl
  obtain ⟨a0_0, e_, _, wa0_0⟩ := DataW.trod_int Tryd.underlying3 g1_0
  obtain rfl : c0_0 = .int .i64 a0_0 := by simpa using e_
  have g1_1 : DataW.trod enc Tryd.prog W 0 (fun _ => true) true n1 30 [c0_1, c0_2] = some y1_1 := by simpa [cells3, cells9, cells30, cells39] using hf1 1 _ rfl
  obtain ⟨xs2, n2, _, _, _, hl2, hf2⟩ := DataW.trod_struct Tryd.underlying30 g1_1
  obtain ⟨y2_0, y2_1, rfl⟩ := lst2 (hl2.trans rfl)
  have g2_0 : DataW.trod enc Tryd.prog W 0 (fun _ => true) true n2 3 [c0_1] = some y2_0 := by simpa [cells3, cells9, cells30, cells39] using hf2 0 _ rfl
  obtain ⟨a0_1_0, e_, _, wa0_1_0⟩ := DataW.trod_int Tryd.underlying3 g2_0
  obtain rfl : c0_1 = .int .i64 a0_1_0 := by simpa using e_
  have g2_1 : DataW.trod enc Tryd.prog W 0 (fun _ => true) true n2 3 [c0_2] = some y2_1 := by simpa [cells3, cells9, cells30, cells39] using hf2 1 _ rfl
  obtain ⟨a0_1_1, e_, _, wa0_1_1⟩ := DataW.trod_int Tryd.underlying3 g2_1
  obtain rfl : c0_2 = .int .i64 a0_1_1 := by simpa using e_
  have g1_2 : DataW.trod enc Tryd.prog W 0 (fun _ => true) true n1 30 [c0_3, c0_4] = some y1_2 := by simpa [cells3, cells9, cells30, cells39] using hf1 2 _ rfl
  obtain ⟨xs3, n3, _, _, _, hl3, hf3⟩ := DataW.trod_struct Tryd.underlying30 g1_2
  obtain ⟨y3_0, y3_1, rfl⟩ := lst2 (hl3.trans rfl)
  have g3_0 : DataW.trod enc Tryd.prog W 0 (fun _ => true) true n3 3 [c0_3] = some y3_0 := by simpa [cells3, cells9, cells30, cells39] using hf3 0 _ rfl
  obtain ⟨a0_2_0, e_, _, wa0_2_0⟩ := DataW.trod_int Tryd.underlying3 g3_0
  obtain rfl : c0_3 = .int .i64 a0_2_0 := by simpa using e_
  have g3_1 : DataW.trod enc Tryd.prog W 0 (fun _ => true) true n3 3 [c0_4] = some y3_1 := by simpa [cells3, cells9, cells30, cells39] using hf3 1 _ rfl
  obtain ⟨a0_2_1, e_, _, wa0_2_1⟩ := DataW.trod_int Tryd.underlying3 g3_1
  obtain rfl : c0_4 = .int .i64 a0_2_1 := by simpa using e_
  have g1_3 : DataW.trod enc Tryd.prog W 0 (fun _ => true) true n1 3 [c0_5] = some y1_3 := by simpa [cells3, cells9, cells30, cells39] using hf1 3 _ rfl
  obtain ⟨a0_3, e_, _, wa0_3⟩ := DataW.trod_int Tryd.underlying3 g1_3
  obtain rfl : c0_5 = .int .i64 a0_3 := by simpa using e_
  have g1_4 : DataW.trod enc Tryd.prog W 0 (fun _ => true) true n1 9 [c0_6] = some y1_4 := by simpa [cells3, cells9, cells30, cells39] using hf1 4 _ rfl
  obtain ⟨a0_4, e_, _, wa0_4⟩ := DataW.trod_string Tryd.underlying9 g1_4
  obtain rfl : c0_6 = .string a0_4 := by simpa using e_
  clear hA0 hval0 hsz0 hsz
  obtain ⟨k, hp⟩ := Pure.FnExactPktText a0_0 a0_1_0 a0_1_1 a0_2_0 a0_2_1 a0_3 a0_4 wa0_0 wa0_1_0 wa0_1_1 wa0_2_0 wa0_2_1 wa0_3 wa0_4
  refine (A.laws_FnExactPktText.calls k a0_0 a0_1_0 a0_1_1 a0_2_0 a0_2_1 a0_3 a0_4 true W hp).mono fun e W' ⟨he, bel⟩ => ?_
  subst he
  exact ⟨_, rfl, _, _, _, [], _, [], hW', trodAll_mk1 (shut_bool Tryd.underlying4 _), (trodAll_cons_mk (Below.trod laidOut (by kernel_rfl) (of_decide_eq_true (by kernel_rfl)) k0 bel lt0) trodAll_mk0), rfl, bel.frame _, fun h => by cases h⟩
theorem over : Rows.fnExactPktTextRow.holds Tryd.pinned (OpenSpec.ofChange Rows.fnExactPktTextSpec) :=
  OpenClaim.holds_of_wide 7 Tryd.f7 rfl rfl rfl rfl rfl rfl rfl ⟨rfl, rfl, rfl, rfl, rfl⟩ rfl rfl rfl rfl rfl (by kernel_rfl) Tryd.func7 (by kernel_rfl)
    (of_decide_eq_true (by kernel_rfl)) (by unfold Func.isWrapper; first | (rw [if_pos (by decide +kernel)]; kernel_rfl) | (rw [if_neg (by decide +kernel)]; exact ⟨rfl, rfl⟩))
    (fun os started H enc _ => lifted os started H enc)
/-- The tied card. -/
theorem card : Rows.FnExactPktTextCardSaid :=
  Claim7.holds_tied_plain_at .later [] [.data, .data, .data] true (true, "ef2f638205a27e075e063e5b530b3b4cf99cb74e8fb2916de9f430f12533954b") true
    over (fun _ h => by cases h) (by kernel_rfl) (fun _ h => by cases h) fnExactPktText_row_tie rfl ⟨rfl, rfl⟩ (by kernel_rfl) rfl
    (fun f fn hf hfn => by
      obtain rfl : f = 7 := Option.some.inj ((show Tryd.prog.funcNamed Rows.fnExactPktTextRow.func = some 7 by kernel_rfl).symm.trans hf) |>.symm
      obtain rfl : fn = Tryd.f7 := (Option.some.inj (Tryd.func7.symm.trans hfn)).symm
      exact ⟨by kernel_rfl, fun j t ht => by
        rw [Tryd.params7] at ht
        have hm : t ∈ [39] := by simpa using Array.mem_of_getElem? ht
        have hall : ([39].all fun u => !Tryd.prog.wantsStandIn u) = true := by kernel_rfl
        exact (show Tryd.prog.wantsStandIn t = false by simpa using List.all_eq_true.1 hall t hm)⟩)
    (by kernel_rfl)
end Go.Proofs.YtdphdheodloofaaDoor.fnExactPktText
namespace Go.Proofs.YtdphdheodloofaaDoor
/-- The statement, under a short name, for the claim. -/
theorem fnExactPktText_holds : Rows.FnExactPktTextCardSaid := fnExactPktText.card
#print axioms fnExactPktText_holds
end Go.Proofs.YtdphdheodloofaaDoor
