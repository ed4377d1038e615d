/- The law FnExactConvSay holds: called with whatever arguments it returns true, and leaves them as they were. No condition but the given row's own. -/
import Derived.Test.YtclhmoghkcnkmaaDoorRows
import Derived.Test.YtclhmoghkcnkmaaDoorCards
import Derived.Test.YtclhmoghkcnkmaaDoorTie
import Derived.Test.YtclhmoghkcnkmaaDoorAx23
import Derived.Test.YtclhmoghkcnkmaaDoorPureFnExactConvSay
import Derived.WalkKit
import Derived.SevenTiedAt
import Derived.LaidMore
import Derived.Stop.Joined
import Derived.Stop.LaidErr
import Derived.ProofKit
import Derived.OpenShut
import Derived.ShutString
import Derived.ChangeOld
import Derived.Below
import Derived.SizedLaws
import Derived.Lib.SmallJoins
import Derived.Test.YtclhmoghkcnkmaaDoorWSized
namespace Go.Proofs.YtclhmoghkcnkmaaDoor.fnExactConvSay
open Go Go.ChangeShapes Go.WideShapes Go.ChangeAt Go.RowKit Go.Proofs.YtclhmoghkcnkmaaDoorW.PrintWords
open Go.ChangeMaps (open_string shut_string)
set_option linter.unusedVariables false
set_option linter.unusedSimpArgs false
/-- What the listed variables hold. -/
def laidL : List (String × DataW Unit) := [("math/bits.deBruijn32tab", Rows.laid_math_bits_deBruijn32tab), ("math/bits.deBruijn64tab", Rows.laid_math_bits_deBruijn64tab), ("internal/strconv.uint64pow10", Rows.laid_internal_strconv_uint64pow10), ("strconv.ErrRange", Rows.laid_strconv_ErrRange), ("strconv.ErrSyntax", Rows.laid_strconv_ErrSyntax)]
set_option maxRecDepth 100000 in
/-- The door's own heap meets the condition. -/
theorem door_met (os : Os) (args : Array Value) : laidMetH Tryd.prog laidL ((World.doorLaid Tryd.prog 400 os).forCall (fun _ _ => 0) ⟨#[], args, []⟩).memory :=
  laidMetH_of_parts3 (fuel := 8) (laidMet_of_run' 8 (by kernel_rfl) (by kernel_rfl)) (by kernel_rfl) (by kernel_rfl)
theorem gSyn : Tryd.prog.globalNamed "strconv.ErrSyntax" = some 4 := by kernel_rfl
theorem gRan : Tryd.prog.globalNamed "strconv.ErrRange" = some 5 := by kernel_rfl
theorem tSyn : (Tryd.prog.globals[4]?).map (·.type) = some 104 := by kernel_rfl
theorem tRan : (Tryd.prog.globals[5]?).map (·.type) = some 104 := by kernel_rfl
theorem cellsE : Tryd.prog.cellsOf 138 = 1 := by kernel_rfl
theorem cellsS : Tryd.prog.cellsOf 9 = 1 := by kernel_rfl
theorem star : "*" ++ "errors.errorString" = "*errors.errorString" := by decide
theorem rowE (u : TypeId) (h : Tryd.prog.typeName? 3 u = some "*errors.errorString") : u = 136 :=
  typeName_ptr_named (nm := "errors.errorString") (by rw [star]; kernel_rfl) (by kernel_rfl) (by decide) u (by rw [star]; exact h)
/-- What the walks ask of the variables. -/
theorem gv_of {W : World} (hL : laidMetH Tryd.prog laidL W) : A.GV W := by
  rw [MakeChecks.laidMetH_plain _ _ _ (by kernel_rfl)] at hL
  obtain ⟨aSyn, sSyn, vSyn, _, _, _⟩ := laid_sentinel hL.tail.tail.tail.tail gSyn tSyn Tryd.underlying104 rowE Tryd.underlying136 Tryd.underlying138 rfl rfl Tryd.underlying9 cellsE cellsS
  obtain ⟨aRan, sRan, vRan, _, _, _⟩ := laid_sentinel hL.tail.tail.tail gRan tRan Tryd.underlying104 rowE Tryd.underlying136 Tryd.underlying138 rfl rfl Tryd.underlying9 cellsE cellsS
  exact ⟨⟨_, _, by simpa using World.var?_cell gSyn vSyn 0⟩, ⟨_, _, by simpa using World.var?_cell gRan vRan 0⟩⟩
theorem own : ownKnob Tryd.prog.godebug = none := by kernel_rfl
theorem laidOut : laidOutB Tryd.prog = true := by kernel_rfl
theorem cells3 : Tryd.prog.cellsOf 3 = 1 := by kernel_rfl
theorem cells4 : Tryd.prog.cellsOf 4 = 1 := by kernel_rfl
theorem cells9 : Tryd.prog.cellsOf 9 = 1 := by kernel_rfl
theorem cells40 : Tryd.prog.cellsOf 40 = 2 := by kernel_rfl
theorem cells51 : Tryd.prog.cellsOf 51 = 10 := by kernel_rfl
def IsRow (k : IntKind) (w : World) (a : Option Addr) (len cap : Nat) (zs : List Int) : Prop :=
  (a = none ∧ len = 0 ∧ cap = 0 ∧ zs = []) ∨
  ∃ x, a = some x ∧ len ≤ cap ∧ cap ≤ maxLen ∧ zs.length = cap ∧ (∀ i, i < zs.length → w.cell? (x.add i) = some (.int k (zs.getD i 0))) ∧ ∀ n ∈ zs, (Lit.int k n).wf = true
theorem arr10 {α : Type} {cs : Array α} (h : cs.size = 10) : ∃ c0 c1 c2 c3 c4 c5 c6 c7 c8 c9, cs = #[c0, c1, c2, c3, c4, c5, c6, c7, c8, c9] := by
  obtain ⟨l⟩ := cs
  match l, h with
  | [c0, c1, c2, c3, c4, c5, c6, c7, c8, c9], _ => exact ⟨c0, c1, c2, c3, c4, c5, c6, c7, c8, c9, rfl⟩
theorem lst2 {α : Type} {cs : List α} (h : cs.length = 2) : ∃ c0 c1, cs = [c0, c1] := by
  match cs, h with
  | [c0, c1], _ => exact ⟨c0, c1, rfl⟩
theorem lst8 {α : Type} {cs : List α} (h : cs.length = 8) : ∃ c0 c1 c2 c3 c4 c5 c6 c7, cs = [c0, c1, c2, c3, c4, c5, c6, c7] := by
  match cs, h with
  | [c0, c1, c2, c3, c4, c5, c6, c7], _ => exact ⟨c0, c1, c2, c3, c4, c5, c6, c7, rfl⟩
set_option maxRecDepth 100000 in
set_option maxHeartbeats 1000000 in
theorem lifted (os : Os) (started : os.Started) (H : Type) (enc : TypeId × Value → H) :
    ReturnsInHanded {} Tryd.checked os 13 .any (fun w args => (Rows.fnExactConvSaySpec.pre enc Tryd.prog Tryd.f13 [] false w args ∧ laidMetH Tryd.prog laidL w) ∧ sizedMet enc Tryd.prog Tryd.f13 (OpenSpec.ofChange Rows.fnExactConvSaySpec) false w args) (Rows.fnExactConvSaySpec.post enc Tryd.prog Tryd.f13 false true false false) := by
  refine returnsInHanded_of_change_and (C := Tryd.checked) (X := fun w _ => laidMetH Tryd.prog laidL w) (fun _ _ _ hh h => h.of_heap hh) own started (by kernel_rfl) Tryd.func13
    (ChangeSpec.witness_shaped (enc := enc) (C := Tryd.checked) (os := os) (X := fun w _ => laidMetH Tryd.prog laidL w) false (World.doorLaid Tryd.prog 400 os) #[.agg #[.int .i64 0, .int .i64 0, .int .i64 0, .int .i64 0, .string ByteArray.empty, .string ByteArray.empty, .int .i64 0, .int .i64 0, .string ByteArray.empty, .string ByteArray.empty], .bool false, .int .i64 0, .int .i64 0, .int .i64 0] 8 rfl (World.shaped_of_RefB (by kernel_rfl) (by kernel_rfl)) (by kernel_rfl) (by kernel_rfl) (by kernel_rfl) (door_met os _)) ?_
  intro W base args ds gs before hval0 hW hcnd hsz0 hL _
  have hsz : (DataW.weightsEach Tryd.prog (Tryd.f13.params.toList ++ Rows.fnExactConvSaySpec.plain.varTypes Tryd.prog) (ds ++ gs)).all (· ≤ reachBytes) = true := hsz0
  have hval : ∀ (j : Nat) t v, Tryd.f13.params[j]? = some t → args[j]? = some v → Value.okWide Tryd.prog W .any base t v := hval0
  have hW' := hW
  obtain ⟨p, q, hA0, hV, rfl, hfz, hnd⟩ := hW
  have hA : DataW.TrodAll enc Tryd.prog W 0 (fun _ => true) true Tryd.f13.params.toList args.toList ds p := hA0
  rw [Tryd.params13] at hA hval hsz
  obtain ⟨v0, vs0, d0, ds0, p0, q0, hargs, rfl, rfl, h0, r0⟩ := trodAll_cons hA
  obtain ⟨v1, vs1, d1, ds1, p1, q1, rfl, rfl, rfl, h1, r1⟩ := trodAll_cons r0
  obtain ⟨v2, vs2, d2, ds2, p2, q2, rfl, rfl, rfl, h2, r2⟩ := trodAll_cons r1
  obtain ⟨v3, vs3, d3, ds3, p3, q3, rfl, rfl, rfl, h3, r3⟩ := trodAll_cons r2
  obtain ⟨v4, vs4, d4, ds4, p4, q4, rfl, rfl, rfl, h4, r4⟩ := trodAll_cons r3
  obtain ⟨rfl, rfl, rfl⟩ := trodAll_nil r4
  obtain rfl : args = #[v0, v1, v2, v3, v4] := by cases args; simp_all
  obtain ⟨rfl, rfl⟩ := trodVars_none hV
  have k0 := h0
  have lt0 : ∀ x ∈ p0, x.block < W.heap.size := by obtain ⟨m, hm⟩ := k0; exact DataW.trod_lt m _ _ _ hm
  obtain ⟨cs0, rfl, hc0⟩ := okWide_struct Tryd.underlying51 (hval 0 51 v0 rfl rfl)
  obtain ⟨c0_0, c0_1, c0_2, c0_3, c0_4, c0_5, c0_6, c0_7, c0_8, c0_9, rfl⟩ := arr10 (hc0.trans cells51)
  obtain ⟨fu0, ht0⟩ := h0
  have hs0 : DataW.trod enc Tryd.prog W 0 (fun _ => true) true fu0 51 [c0_0, c0_1, c0_2, c0_3, c0_4, c0_5, c0_6, c0_7, c0_8, c0_9] = some (d0, p0) := by simpa [Value.cells] using ht0
  obtain ⟨xs1, n1, _, _, _, hl1, hf1⟩ := DataW.trod_struct Tryd.underlying51 hs0
  obtain ⟨y1_0, y1_1, y1_2, y1_3, y1_4, y1_5, y1_6, y1_7, rfl⟩ := lst8 (hl1.trans rfl)
  have g1_0 : DataW.trod enc Tryd.prog W 0 (fun _ => true) true n1 40 [c0_0, c0_1] = some y1_0 := by simpa [cells3, cells4, cells9, cells40, cells51] using hf1 0 _ rfl
  obtain ⟨xs2, n2, _, _, _, hl2, hf2⟩ := DataW.trod_struct Tryd.underlying40 g1_0
  obtain ⟨y2_0, y2_1, rfl⟩ := lst2 (hl2.trans rfl)
  have g2_0 : DataW.trod enc Tryd.prog W 0 (fun _ => true) true n2 3 [c0_0] = some y2_0 := by simpa [cells3, cells4, cells9, cells40, cells51] using hf2 0 _ rfl
  obtain ⟨a0_0_0, e_, _, wa0_0_0⟩ := DataW.trod_int Tryd.underlying3 g2_0
  obtain rfl : c0_0 = .int .i64 a0_0_0 := by simpa using e_
  have g2_1 : DataW.trod enc Tryd.prog W 0 (fun _ => true) true n2 3 [c0_1] = some y2_1 := by simpa [cells3, cells4, cells9, cells40, cells51] using hf2 1 _ rfl
  obtain ⟨a0_0_1, e_, _, wa0_0_1⟩ := DataW.trod_int Tryd.underlying3 g2_1
  obtain rfl : c0_1 = .int .i64 a0_0_1 := by simpa using e_
  have g1_1 : DataW.trod enc Tryd.prog W 0 (fun _ => true) true n1 40 [c0_2, c0_3] = some y1_1 := by simpa [cells3, cells4, cells9, cells40, cells51] using hf1 1 _ rfl
  obtain ⟨xs3, n3, _, _, _, hl3, hf3⟩ := DataW.trod_struct Tryd.underlying40 g1_1
  obtain ⟨y3_0, y3_1, rfl⟩ := lst2 (hl3.trans rfl)
  have g3_0 : DataW.trod enc Tryd.prog W 0 (fun _ => true) true n3 3 [c0_2] = some y3_0 := by simpa [cells3, cells4, cells9, cells40, cells51] using hf3 0 _ rfl
  obtain ⟨a0_1_0, e_, _, wa0_1_0⟩ := DataW.trod_int Tryd.underlying3 g3_0
  obtain rfl : c0_2 = .int .i64 a0_1_0 := by simpa using e_
  have g3_1 : DataW.trod enc Tryd.prog W 0 (fun _ => true) true n3 3 [c0_3] = some y3_1 := by simpa [cells3, cells4, cells9, cells40, cells51] using hf3 1 _ rfl
  obtain ⟨a0_1_1, e_, _, wa0_1_1⟩ := DataW.trod_int Tryd.underlying3 g3_1
  obtain rfl : c0_3 = .int .i64 a0_1_1 := by simpa using e_
  have g1_2 : DataW.trod enc Tryd.prog W 0 (fun _ => true) true n1 9 [c0_4] = some y1_2 := by simpa [cells3, cells4, cells9, cells40, cells51] using hf1 2 _ rfl
  obtain ⟨a0_2, e_, _, wa0_2⟩ := DataW.trod_string Tryd.underlying9 g1_2
  obtain rfl : c0_4 = .string a0_2 := by simpa using e_
  have g1_3 : DataW.trod enc Tryd.prog W 0 (fun _ => true) true n1 9 [c0_5] = some y1_3 := by simpa [cells3, cells4, cells9, cells40, cells51] using hf1 3 _ rfl
  obtain ⟨a0_3, e_, _, wa0_3⟩ := DataW.trod_string Tryd.underlying9 g1_3
  obtain rfl : c0_5 = .string a0_3 := by simpa using e_
  have g1_4 : DataW.trod enc Tryd.prog W 0 (fun _ => true) true n1 3 [c0_6] = some y1_4 := by simpa [cells3, cells4, cells9, cells40, cells51] using hf1 4 _ rfl
  obtain ⟨a0_4, e_, _, wa0_4⟩ := DataW.trod_int Tryd.underlying3 g1_4
  obtain rfl : c0_6 = .int .i64 a0_4 := by simpa using e_
  have g1_5 : DataW.trod enc Tryd.prog W 0 (fun _ => true) true n1 3 [c0_7] = some y1_5 := by simpa [cells3, cells4, cells9, cells40, cells51] using hf1 5 _ rfl
  obtain ⟨a0_5, e_, _, wa0_5⟩ := DataW.trod_int Tryd.underlying3 g1_5
  obtain rfl : c0_7 = .int .i64 a0_5 := by simpa using e_
  have g1_6 : DataW.trod enc Tryd.prog W 0 (fun _ => true) true n1 9 [c0_8] = some y1_6 := by simpa [cells3, cells4, cells9, cells40, cells51] using hf1 6 _ rfl
  obtain ⟨a0_6, e_, _, wa0_6⟩ := DataW.trod_string Tryd.underlying9 g1_6
  obtain rfl : c0_8 = .string a0_6 := by simpa using e_
  have g1_7 : DataW.trod enc Tryd.prog W 0 (fun _ => true) true n1 9 [c0_9] = some y1_7 := by simpa [cells3, cells4, cells9, cells40, cells51] using hf1 7 _ rfl
  obtain ⟨a0_7, e_, _, wa0_7⟩ := DataW.trod_string Tryd.underlying9 g1_7
  obtain rfl : c0_9 = .string a0_7 := by simpa using e_
  obtain ⟨a1, rfl, rfl, rfl⟩ := open_bool Tryd.underlying4 (hval 1 4 v1 rfl rfl) h1
  obtain ⟨a2, rfl, rfl, rfl, w2⟩ := open_int Tryd.underlying3 (hval 2 3 v2 rfl rfl) h2
  obtain ⟨a3, rfl, rfl, rfl, w3⟩ := open_int Tryd.underlying3 (hval 3 3 v3 rfl rfl) h3
  obtain ⟨a4, rfl, rfl, rfl, w4⟩ := open_int Tryd.underlying3 (hval 4 3 v4 rfl rfl) h4
  clear hA0 hval0 hsz0 hsz
  obtain ⟨k, hp⟩ := Pure.FnExactConvSay a0_0_0 a0_0_1 a0_1_0 a0_1_1 a0_2 a0_3 a0_4 a0_5 a0_6 a0_7 a1 a2 a3 a4 wa0_0_0 wa0_0_1 wa0_1_0 wa0_1_1 wa0_2 wa0_3 wa0_4 wa0_5 wa0_6 wa0_7 w2 w3 w4
  refine (A.laws_FnExactConvSay.calls k a0_0_0 a0_0_1 a0_1_0 a0_1_1 a0_2 a0_3 a0_4 a0_5 a0_6 a0_7 a1 a2 a3 a4 true W (gv_of hL) hp).mono fun e W' ⟨he, bel⟩ => ?_
  subst he
  exact ⟨_, rfl, _, _, _, [], _, [], hW', trodAll_mk1 (shut_bool Tryd.underlying4 _), (trodAll_cons_mk (Below.trod laidOut (by kernel_rfl) (of_decide_eq_true (by kernel_rfl)) k0 bel lt0) (trodAll_cons_mk (shut_bool Tryd.underlying4 _) (trodAll_cons_mk (shut_int Tryd.underlying3 w2) (trodAll_cons_mk (shut_int Tryd.underlying3 w3) (trodAll_cons_mk (shut_int Tryd.underlying3 w4) trodAll_mk0))))), rfl, bel.frame _, fun h => by cases h⟩
theorem over : Rows.fnExactConvSayRow.holds Tryd.pinned (OpenSpec.ofChange Rows.fnExactConvSaySpec) :=
  OpenClaim.holds_of_wide 13 Tryd.f13 rfl rfl rfl rfl rfl rfl rfl ⟨rfl, rfl, rfl, rfl, rfl⟩ rfl rfl rfl rfl rfl (by kernel_rfl) Tryd.func13 (by kernel_rfl)
    (of_decide_eq_true (by kernel_rfl)) (by unfold Func.isWrapper; first | (rw [if_pos (by decide +kernel)]; kernel_rfl) | (rw [if_neg (by decide +kernel)]; exact ⟨rfl, rfl⟩))
    (fun os started H enc _ => lifted os started H enc)
/-- The tied card. -/
theorem card : Rows.FnExactConvSayCardSaid :=
  Claim7.holds_tied_plain_at .later [] [.data, .data, .data, .sentinel, .sentinel] true (true, "e6150ee002ac0d414eeefd74fecbf525098bc4b1467eeb25c57f61aa580a511d") true
    over (fun _ h => by cases h) (by kernel_rfl) (fun _ h => by cases h) fnExactConvSay_row_tie rfl ⟨rfl, rfl⟩ (by kernel_rfl) rfl
    (fun f fn hf hfn => by
      obtain rfl : f = 13 := Option.some.inj ((show Tryd.prog.funcNamed Rows.fnExactConvSayRow.func = some 13 by kernel_rfl).symm.trans hf) |>.symm
      obtain rfl : fn = Tryd.f13 := (Option.some.inj (Tryd.func13.symm.trans hfn)).symm
      exact ⟨by kernel_rfl, fun j t ht => by
        rw [Tryd.params13] at ht
        have hm : t ∈ [51, 4, 3, 3, 3] := by simpa using Array.mem_of_getElem? ht
        have hall : ([51, 4, 3, 3, 3].all fun u => !Tryd.prog.wantsStandIn u) = true := by kernel_rfl
        exact (show Tryd.prog.wantsStandIn t = false by simpa using List.all_eq_true.1 hall t hm)⟩)
    (by kernel_rfl)
end Go.Proofs.YtclhmoghkcnkmaaDoor.fnExactConvSay
namespace Go.Proofs.YtclhmoghkcnkmaaDoor
/-- The statement, under a short name, for the claim. -/
theorem fnExactConvSay_holds : Rows.FnExactConvSayCardSaid := fnExactConvSay.card
#print axioms fnExactConvSay_holds
end Go.Proofs.YtclhmoghkcnkmaaDoor
