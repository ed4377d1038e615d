/- The law on a packet's place, as plain Lean: a packet in form is so at any place from 0 to 99, and at no other. -/
import Derived.Test.YthjhgefopkkkdaaAx21
import Derived.Test.YthjhgefopkkkdaaEvDraw4
namespace Go.Proofs.Ythjhgefopkkkdaa.Pure
open Go.RowKit Go.Proofs.YthjhgefopkkkdaaW.PrintWords Go.Proofs.Ythjhgefopkkkdaa.Plain Go.Proofs.Ythjhgefopkkkdaa.A
theorem pktAt_true {k a p b q n : Int} {l : List Int} (h : pktOk k a p b q n l = true) : anyE a p = true ∧ anyE b q = true ∧ (0 ≤ n ∧ n ≤ 99) ∧ ((k = 1 ∧ textOk l = true ∧ l ≠ []) ∨ (k = 2 ∧ l = [])) := by
  simpa [pktOk, and_assoc] using h
theorem FnPktAt : laws_FnPktAt.Pure := by
  intro l m hl hb hw hl2 hb2 hw2
  apply Ev.rounds
  have fin : ∀ x : Bool, Ev (fun r => laws_FnPktAt.j0 r l m x) true := by
    intro x
    cases x with
    | true => exact Ev.step (f := fun _ => some true) (fun r => by simp only [laws_FnPktAt.j0]; rfl) (Ev.now _)
    | false =>
      refine Ev.step (f := fun r => _) (fun r => by simp only [laws_FnPktAt.j0]; rfl) ?_
      refine Ev.neg (by decide) ?_
      obtain ⟨k, a, p, b, q, n, s, e, hs⟩ := drawPktOk_ev l (code_of hw)
      refine Ev.bind e ?_
      refine Ev.call (iPktOk k a p b q n s (by omega)) ?_
      refine Ev.bind (sPktOk k a p b q n s (by omega)) ?_
      refine Ev.neg (by simp) ?_
      cases hk : pktOk k a p b q n (bytesOf s) with
      | false =>
        refine Ev.step (f := fun r => (spec_PktOk.f r k a p b q n s).bind fun t => some (false == t)) (fun r => by simp only [laws_FnPktAt.j1]; rfl) ?_
        refine Ev.bind (sPktOk k a p b q n s (by omega)) ?_
        rw [hk]; exact Ev.now _
      | true =>
        obtain ⟨h1, h2, h3, h4⟩ := pktAt_true hk
        refine Ev.step (f := fun r => _) (fun r => by simp only [laws_FnPktAt.j1, Bool.not_true]; rfl) ?_
        refine Ev.neg (by decide) ?_
        refine Ev.pos (show s.size + 1 ≤ 9223372036854775807 from by omega) ?_
        have e1 : impl_PktOk.f k a p b q ((m.length : Int) % 100) s = some true := by
          rw [iPktOk _ a p b q _ s (by omega)]
          congr 1
          have h9 : 0 ≤ (m.length : Int) % 100 ∧ (m.length : Int) % 100 ≤ 99 := by omega
          simpa [pktOk, h1, h2, h9, h3, and_assoc] using h4
        refine Ev.call e1 ?_
        refine Ev.pos rfl ?_
        have e2 : impl_PktOk.f k a p b q 100 s = some false := by
          rw [iPktOk k a p b q 100 s (by omega)]; simp [pktOk]
        refine Ev.call e2 ?_
        refine Ev.neg (by decide) ?_
        have e3 : impl_PktOk.f k a p b q n (s ++ (⟨#[32]⟩ : ByteArray)) = some false := by
          have ea : (⟨#[32]⟩ : ByteArray).size = 1 := rfl
          rw [iPktOk k a p b q n _ (by rw [ByteArray.size_append, ea]; omega), bytesOf_append]
          have eb : bytesOf (⟨#[32]⟩ : ByteArray) = [32] := rfl
          rw [eb]
          simp [pktOk, textOk, okb]
        exact Ev.call e3 (Ev.now _)
  unfold laws_FnPktAt.f
  exact Ev.ite (fun _ => fin _) (fun _ => fin _)
end Go.Proofs.Ythjhgefopkkkdaa.Pure
