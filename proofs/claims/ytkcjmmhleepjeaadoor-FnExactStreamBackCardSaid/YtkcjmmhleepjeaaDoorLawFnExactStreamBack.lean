/- The law FnExactStreamBack holds: called with whatever arguments it returns true, and leaves them as they were. No condition but the given row's own. -/
import Derived.Test.YtkcjmmhleepjeaaDoorRows
import Derived.Test.YtkcjmmhleepjeaaDoorCards
import Derived.Test.YtkcjmmhleepjeaaDoorTie
import Derived.Test.YtkcjmmhleepjeaaDoorAx17
import Derived.Test.YtkcjmmhleepjeaaDoorPureFnExactStreamBack
import Derived.WalkKit
import Derived.SevenTiedAt
import Derived.LaidMore
import Derived.Stop.Joined
import Derived.Stop.LaidErr
import Derived.ProofKit
import Derived.OpenShut
import Derived.ShutString
import Derived.ChangeOld
import Derived.Below
import Derived.SizedLaws
import Derived.Lib.SmallJoins
import Derived.Test.YtkcjmmhleepjeaaDoorWSized
namespace Go.Proofs.YtkcjmmhleepjeaaDoor.fnExactStreamBack
open Go Go.ChangeShapes Go.WideShapes Go.ChangeAt Go.RowKit Go.Proofs.YtkcjmmhleepjeaaDoorW.PrintWords
open Go.ChangeMaps (open_string shut_string)
set_option linter.unusedVariables false
set_option linter.unusedSimpArgs false
/-- What the listed variables hold. -/
def laidL : List (String × DataW Unit) := [("math/bits.deBruijn32tab", Rows.laid_math_bits_deBruijn32tab), ("math/bits.deBruijn64tab", Rows.laid_math_bits_deBruijn64tab), ("internal/strconv.uint64pow10", Rows.laid_internal_strconv_uint64pow10), ("strconv.ErrRange", Rows.laid_strconv_ErrRange), ("strconv.ErrSyntax", Rows.laid_strconv_ErrSyntax)]
set_option maxRecDepth 100000 in
/-- The door's own heap meets the condition. -/
theorem door_met (os : Os) (args : Array Value) : laidMetH Tryd.prog laidL ((World.doorLaid Tryd.prog 400 os).forCall (fun _ _ => 0) ⟨#[], args, []⟩).memory :=
  laidMetH_of_parts3 (fuel := 8) (laidMet_of_run' 8 (by kernel_rfl) (by kernel_rfl)) (by kernel_rfl) (by kernel_rfl)
theorem gSyn : Tryd.prog.globalNamed "strconv.ErrSyntax" = some 1 := by kernel_rfl
theorem gRan : Tryd.prog.globalNamed "strconv.ErrRange" = some 2 := by kernel_rfl
theorem tSyn : (Tryd.prog.globals[1]?).map (·.type) = some 74 := by kernel_rfl
theorem tRan : (Tryd.prog.globals[2]?).map (·.type) = some 74 := by kernel_rfl
theorem cellsE : Tryd.prog.cellsOf 142 = 1 := by kernel_rfl
theorem cellsS : Tryd.prog.cellsOf 9 = 1 := by kernel_rfl
theorem star : "*" ++ "errors.errorString" = "*errors.errorString" := by decide
theorem rowE (u : TypeId) (h : Tryd.prog.typeName? 3 u = some "*errors.errorString") : u = 140 :=
  typeName_ptr_named (nm := "errors.errorString") (by rw [star]; kernel_rfl) (by kernel_rfl) (by decide) u (by rw [star]; exact h)
/-- What the walks ask of the variables. -/
theorem gv_of {W : World} (hL : laidMetH Tryd.prog laidL W) : A.GV W := by
  rw [MakeChecks.laidMetH_plain _ _ _ (by kernel_rfl)] at hL
  obtain ⟨aSyn, sSyn, vSyn, _, _, _⟩ := laid_sentinel hL.tail.tail.tail.tail gSyn tSyn Tryd.underlying74 rowE Tryd.underlying140 Tryd.underlying142 rfl rfl Tryd.underlying9 cellsE cellsS
  obtain ⟨aRan, sRan, vRan, _, _, _⟩ := laid_sentinel hL.tail.tail.tail gRan tRan Tryd.underlying74 rowE Tryd.underlying140 Tryd.underlying142 rfl rfl Tryd.underlying9 cellsE cellsS
  exact ⟨⟨_, _, by simpa using World.var?_cell gSyn vSyn 0⟩, ⟨_, _, by simpa using World.var?_cell gRan vRan 0⟩⟩
theorem own : ownKnob Tryd.prog.godebug = none := by kernel_rfl
theorem laidOut : laidOutB Tryd.prog = true := by kernel_rfl
theorem cells3 : Tryd.prog.cellsOf 3 = 1 := by kernel_rfl
theorem cells9 : Tryd.prog.cellsOf 9 = 1 := by kernel_rfl
theorem cells22 : Tryd.prog.cellsOf 22 = 1 := by kernel_rfl
theorem cells24 : Tryd.prog.cellsOf 24 = 2 := by kernel_rfl
theorem cells62 : Tryd.prog.cellsOf 62 = 2 := by kernel_rfl
def IsRow (k : IntKind) (w : World) (a : Option Addr) (len cap : Nat) (zs : List Int) : Prop :=
  (a = none ∧ len = 0 ∧ cap = 0 ∧ zs = []) ∨
  ∃ x, a = some x ∧ len ≤ cap ∧ cap ≤ maxLen ∧ zs.length = cap ∧ (∀ i, i < zs.length → w.cell? (x.add i) = some (.int k (zs.getD i 0))) ∧ ∀ n ∈ zs, (Lit.int k n).wf = true
theorem arr2 {α : Type} {cs : Array α} (h : cs.size = 2) : ∃ c0 c1, cs = #[c0, c1] := by
  obtain ⟨l⟩ := cs
  match l, h with
  | [c0, c1], _ => exact ⟨c0, c1, rfl⟩
theorem lst2 {α : Type} {cs : List α} (h : cs.length = 2) : ∃ c0 c1, cs = [c0, c1] := by
  match cs, h with
  | [c0, c1], _ => exact ⟨c0, c1, rfl⟩
theorem collect {α : Type} {n : Nat} {p : Nat → α → Prop} (h : ∀ i, i < n → ∃ x, p i x) : ∃ l : List α, n = l.length ∧ ∀ i (hi : i < l.length), p i l[i] := by
  induction n with
  | zero => exact ⟨[], rfl, fun i hi => absurd hi (Nat.not_lt_zero _)⟩
  | succ n ih =>
    obtain ⟨l, hl, hp⟩ := ih (fun i hi => h i (by omega))
    obtain ⟨x, hx⟩ := h n (by omega)
    refine ⟨l ++ [x], by rw [List.length_append, ← hl]; rfl, fun i hi => ?_⟩
    rw [List.length_append, List.length_singleton] at hi
    by_cases c : i < l.length
    · rw [List.getElem_append_left c]; exact hp i c
    · obtain rfl : i = l.length := by omega
      rw [List.getElem_append_right (Nat.le_refl _)]
      simpa [← hl] using hx
theorem openT62 {W : World} {H : Type} {enc : TypeId × Value → H} {fuel : Nat} {t : TypeId} {c : Value} {y : DataW H × List MemPlace} (ht : Tryd.prog.underlying t = some (.slice 62)) (g : DataW.trod enc Tryd.prog W 0 (fun _ => true) true fuel t [c] = some y) :
    ∃ (B : Option Addr) (cp : Nat) (l : List A.S62), c = .slice B l.length cp ∧ l.length ≤ cp ∧ l.length ≤ maxLen ∧ Go.Proofs.YtkcjmmhleepjeaaDoorW.PrintWords.Kd.C A.k62 W B l.length l ∧ ∀ x ∈ l, x.f1.size ≤ maxLen := by
  rcases DataW.trod_slice ht g with ⟨hc, _⟩ | ⟨a, len, cap, elems, rest, n, _, hc, _, _, hl, hm, hlen, hel, _, _⟩
  · obtain rfl : c = .slice none 0 0 := by simpa using hc
    exact ⟨none, 0, [], rfl, Nat.le_refl _, Nat.zero_le _, ⟨rfl, Nat.zero_le _, fun h => absurd h (Nat.lt_irrefl 0)⟩, fun x hx => by cases hx⟩
  · obtain rfl : c = .slice (some a) len cap := by simpa using hc
    have one : ∀ i, i < len → ∃ x : A.S62, (x.f1.size ≤ maxLen) ∧ ∀ j u, ([.int .i64 x.f0, .string x.f1] : List Value)[j]? = some u → W.cell? (a.add (i * 2 + j)) = some u := by
      intro i hi
      have h1 := hel i hi
      rw [List.getElem?_eq_getElem (by omega), Option.bind_eq_some_iff, cells62] at h1
      obtain ⟨cs, h2, h3⟩ := h1
      obtain ⟨xs, m, _, _, hk, hxl, hf⟩ := DataW.trod_struct Tryd.underlying62 h3
      rw [cells62] at hk
      obtain ⟨u0, u1, rfl⟩ := lst2 hk
      obtain ⟨y0, y1, rfl⟩ := lst2 (hxl.trans rfl)
      have g0 : DataW.trod enc Tryd.prog W 0 (fun _ => true) true m 3 [u0] = some y0 := by simpa [cells3, cells9, cells22, cells24, cells62] using hf 0 _ rfl
      obtain ⟨s0, e0, _, w0⟩ := DataW.trod_int Tryd.underlying3 g0
      obtain rfl : u0 = .int .i64 s0 := by simpa using e0
      have g1 : DataW.trod enc Tryd.prog W 0 (fun _ => true) true m 9 [u1] = some y1 := by simpa [cells3, cells9, cells22, cells24, cells62] using hf 1 _ rfl
      obtain ⟨s1, e1, _, w1⟩ := DataW.trod_string Tryd.underlying9 g1
      obtain rfl : u1 = .string s1 := by simpa using e1
      refine ⟨⟨s0, s1⟩, w1, fun j u hj => ?_⟩
      have hj2 : j < 2 := (List.getElem?_eq_some_iff.1 hj).1
      have hq := (World.cells?_some h2).2.2 j hj2
      rw [Addr.add_add, hj] at hq
      exact hq
    obtain ⟨l, hl1, hl2⟩ := collect one
    subst hl1
    refine ⟨some a, cap, l, rfl, hl, Nat.le_trans hl hm, ⟨rfl, Nat.le_trans hl hm, fun _ => ⟨a, rfl, fun j x hj => ?_⟩⟩, fun x hx => ?_⟩
    · obtain ⟨hj1, rfl⟩ := List.getElem?_eq_some_iff.1 hj
      exact ⟨_, rfl, A.k62_mk W _, fun i u hu => (hl2 j hj1).2 i u hu⟩
    · obtain ⟨j, hj, rfl⟩ := List.getElem_of_mem hx
      exact (hl2 j hj).1
set_option maxRecDepth 100000 in
set_option maxHeartbeats 1000000 in
theorem lifted (os : Os) (started : os.Started) (H : Type) (enc : TypeId × Value → H) :
    ReturnsInHanded {} Tryd.checked os 6 .any (fun w args => (Rows.fnExactStreamBackSpec.pre enc Tryd.prog Tryd.f6 [] false w args ∧ laidMetH Tryd.prog laidL w) ∧ sizedMet enc Tryd.prog Tryd.f6 (OpenSpec.ofChange Rows.fnExactStreamBackSpec) false w args) (Rows.fnExactStreamBackSpec.post enc Tryd.prog Tryd.f6 false true false false) := by
  refine returnsInHanded_of_change_and (C := Tryd.checked) (X := fun w _ => laidMetH Tryd.prog laidL w) (fun _ _ _ hh h => h.of_heap hh) own started (by kernel_rfl) Tryd.func6
    (ChangeSpec.witness_shaped (enc := enc) (C := Tryd.checked) (os := os) (X := fun w _ => laidMetH Tryd.prog laidL w) false (World.doorLaid Tryd.prog 400 os) #[.agg #[.string ByteArray.empty, .slice none 0 0], .int .i64 0] 8 rfl (World.shaped_of_RefB (by kernel_rfl) (by kernel_rfl)) (by kernel_rfl) (by kernel_rfl) (by kernel_rfl) (door_met os _)) ?_
  intro W base args ds gs before hval0 hW hcnd hsz0 hL _
  have hsz : (DataW.weightsEach Tryd.prog (Tryd.f6.params.toList ++ Rows.fnExactStreamBackSpec.plain.varTypes Tryd.prog) (ds ++ gs)).all (· ≤ reachBytes) = true := hsz0
  have hval : ∀ (j : Nat) t v, Tryd.f6.params[j]? = some t → args[j]? = some v → Value.okWide Tryd.prog W .any base t v := hval0
  have hW' := hW
  obtain ⟨p, q, hA0, hV, rfl, hfz, hnd⟩ := hW
  have hA : DataW.TrodAll enc Tryd.prog W 0 (fun _ => true) true Tryd.f6.params.toList args.toList ds p := hA0
  rw [Tryd.params6] at hA hval hsz
  obtain ⟨v0, vs0, d0, ds0, p0, q0, hargs, rfl, rfl, h0, r0⟩ := trodAll_cons hA
  obtain ⟨v1, vs1, d1, ds1, p1, q1, rfl, rfl, rfl, h1, r1⟩ := trodAll_cons r0
  obtain ⟨rfl, rfl, rfl⟩ := trodAll_nil r1
  obtain rfl : args = #[v0, v1] := by cases args; simp_all
  obtain ⟨rfl, rfl⟩ := trodVars_none hV
  have k0 := h0
  have lt0 : ∀ x ∈ p0, x.block < W.heap.size := by obtain ⟨m, hm⟩ := k0; exact DataW.trod_lt m _ _ _ hm
  obtain ⟨cs0, rfl, hc0⟩ := okWide_struct Tryd.underlying24 (hval 0 24 v0 rfl rfl)
  obtain ⟨c0_0, c0_1, rfl⟩ := arr2 (hc0.trans cells24)
  obtain ⟨fu0, ht0⟩ := h0
  have hs0 : DataW.trod enc Tryd.prog W 0 (fun _ => true) true fu0 24 [c0_0, c0_1] = some (d0, p0) := by simpa [Value.cells] using ht0
  obtain ⟨xs1, n1, _, _, _, hl1, hf1⟩ := DataW.trod_struct Tryd.underlying24 hs0
  obtain ⟨y1_0, y1_1, rfl⟩ := lst2 (hl1.trans rfl)
  have g1_0 : DataW.trod enc Tryd.prog W 0 (fun _ => true) true n1 9 [c0_0] = some y1_0 := by simpa [cells3, cells9, cells22, cells24, cells62] using hf1 0 _ rfl
  obtain ⟨a0_0, e_, _, wa0_0⟩ := DataW.trod_string Tryd.underlying9 g1_0
  obtain rfl : c0_0 = .string a0_0 := by simpa using e_
  have g1_1 : DataW.trod enc Tryd.prog W 0 (fun _ => true) true n1 22 [c0_1] = some y1_1 := by simpa [cells3, cells9, cells22, cells24, cells62] using hf1 1 _ rfl
  obtain ⟨Aa0_1, pa0_1, a0_1, rfl, qa0_1, ma0_1, Ca0_1, Sa0_1⟩ := openT62 Tryd.underlying22 g1_1
  obtain ⟨a1, rfl, rfl, rfl, w1⟩ := open_int Tryd.underlying3 (hval 1 3 v1 rfl rfl) h1
  clear hA0 hval0 hsz0 hsz
  obtain ⟨k, hp⟩ := Pure.FnExactStreamBack a0_0 a0_1 a1 wa0_0 ma0_1 Sa0_1 w1
  refine (A.laws_FnExactStreamBack.calls k a0_0 Aa0_1 pa0_1 a0_1 a1 true W Ca0_1 qa0_1 (gv_of hL) hp).mono fun e W' ⟨he, bel⟩ => ?_
  subst he
  exact ⟨_, rfl, _, _, _, [], _, [], hW', trodAll_mk1 (shut_bool Tryd.underlying4 _), (trodAll_cons_mk (Below.trod laidOut (by kernel_rfl) (of_decide_eq_true (by kernel_rfl)) k0 bel lt0) (trodAll_cons_mk (shut_int Tryd.underlying3 w1) trodAll_mk0)), rfl, bel.frame _, fun h => by cases h⟩
theorem over : Rows.fnExactStreamBackRow.holds Tryd.pinned (OpenSpec.ofChange Rows.fnExactStreamBackSpec) :=
  OpenClaim.holds_of_wide 6 Tryd.f6 rfl rfl rfl rfl rfl rfl rfl ⟨rfl, rfl, rfl, rfl, rfl⟩ rfl rfl rfl rfl rfl (by kernel_rfl) Tryd.func6 (by kernel_rfl)
    (of_decide_eq_true (by kernel_rfl)) (by unfold Func.isWrapper; first | (rw [if_pos (by decide +kernel)]; kernel_rfl) | (rw [if_neg (by decide +kernel)]; exact ⟨rfl, rfl⟩))
    (fun os started H enc _ => lifted os started H enc)
/-- The tied card. -/
theorem card : Rows.FnExactStreamBackCardSaid :=
  Claim7.holds_tied_plain_at .later [] [.data, .data, .data, .sentinel, .sentinel] true (true, "026a07ba743b5525f5071a53188f3f3b945062ee39922215ad22b4e0b0d285a3") true
    over (fun _ h => by cases h) (by kernel_rfl) (fun _ h => by cases h) fnExactStreamBack_row_tie rfl ⟨rfl, rfl⟩ (by kernel_rfl) rfl
    (fun f fn hf hfn => by
      obtain rfl : f = 6 := Option.some.inj ((show Tryd.prog.funcNamed Rows.fnExactStreamBackRow.func = some 6 by kernel_rfl).symm.trans hf) |>.symm
      obtain rfl : fn = Tryd.f6 := (Option.some.inj (Tryd.func6.symm.trans hfn)).symm
      exact ⟨by kernel_rfl, fun j t ht => by
        rw [Tryd.params6] at ht
        have hm : t ∈ [24, 3] := by simpa using Array.mem_of_getElem? ht
        have hall : ([24, 3].all fun u => !Tryd.prog.wantsStandIn u) = true := by kernel_rfl
        exact (show Tryd.prog.wantsStandIn t = false by simpa using List.all_eq_true.1 hall t hm)⟩)
    (by kernel_rfl)
end Go.Proofs.YtkcjmmhleepjeaaDoor.fnExactStreamBack
namespace Go.Proofs.YtkcjmmhleepjeaaDoor
/-- The statement, under a short name, for the claim. -/
theorem fnExactStreamBack_holds : Rows.FnExactStreamBackCardSaid := fnExactStreamBack.card
#print axioms fnExactStreamBack_holds
end Go.Proofs.YtkcjmmhleepjeaaDoor
