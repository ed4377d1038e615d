/- The law on a packet's form, as plain Lean: data are something, an ack is nothing but a number. -/
import Derived.Test.YthjhgefopkkkdaaAx22
import Derived.Test.YthjhgefopkkkdaaEvDraw4
namespace Go.Proofs.Ythjhgefopkkkdaa.Pure
open Go.RowKit Go.Proofs.YthjhgefopkkkdaaW.PrintWords Go.Proofs.Ythjhgefopkkkdaa.Plain Go.Proofs.Ythjhgefopkkkdaa.A
theorem pktOk_true {k a p b q n : Int} {l : List Int} (h : pktOk k a p b q n l = true) : anyE a p = true ∧ anyE b q = true ∧ (0 ≤ n ∧ n ≤ 99) ∧ ((k = 1 ∧ textOk l = true ∧ l ≠ []) ∨ (k = 2 ∧ l = [])) := by
  simpa [pktOk, and_assoc] using h
theorem FnPktForm : laws_FnPktForm.Pure := by
  intro l hl hb hw
  apply Ev.rounds
  unfold laws_FnPktForm.f
  refine Ev.ite (fun _ => Ev.now _) (fun _ => ?_)
  obtain ⟨k, a, p, b, q, n, s, e, hs⟩ := drawPktOk_ev l (code_of hw)
  refine Ev.bind e ?_
  refine Ev.call (iPktOk k a p b q n s (by omega)) ?_
  refine Ev.bind (sPktOk k a p b q n s (by omega)) ?_
  refine Ev.neg (by simp) ?_
  cases hk : pktOk k a p b q n (bytesOf s) with
  | false =>
    refine Ev.step (f := fun r => (spec_PktOk.f r k a p b q n s).bind fun t => some (false == t)) (fun r => by simp only [laws_FnPktForm.j0]; rfl) ?_
    refine Ev.bind (sPktOk k a p b q n s (by omega)) ?_
    rw [hk]; exact Ev.now _
  | true =>
    obtain ⟨h1, h2, h3, h4⟩ := pktOk_true hk
    have ie : s.toList.isEmpty = decide (bytesOf s = []) := by
      rw [Bool.eq_iff_iff, List.isEmpty_iff, decide_eq_true_eq, toList_nil]
    refine Ev.step (f := fun r => _) (fun r => by simp only [laws_FnPktForm.j0, Bool.not_true]; rfl) ?_
    refine Ev.neg (by decide) ?_
    refine Ev.pos ?_ ?_
    · rw [ie]
      rcases h4 with ⟨rfl, _, h5⟩ | ⟨rfl, h5⟩
      · simp [h5]
      · simp [h5]
    · have e1 : impl_PktOk.f (wrap64 (3 - k)) a p b q n s = some false := by
        rw [iPktOk _ a p b q n s (by omega)]
        congr 1
        rcases h4 with ⟨rfl, _, h5⟩ | ⟨rfl, h5⟩
        · rw [wrap_id (by omega) (by omega)]; simp [pktOk, h5]
        · rw [wrap_id (by omega) (by omega)]; simp [pktOk, h5]
      refine Ev.call e1 ?_
      refine Ev.neg (by decide) ?_
      have e2 : impl_PktOk.f k a p b q (-1) s = some false := by
        rw [iPktOk k a p b q (-1) s (by omega)]; simp [pktOk]
      exact Ev.call e2 (Ev.now _)
end Go.Proofs.Ythjhgefopkkkdaa.Pure
