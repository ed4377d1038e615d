/- The law on TextOk, as plain Lean: program and reference answer alike at every text. -/
import Derived.Test.YthjhgefopkkkdaaAx9
import Derived.Test.YthjhgefopkkkdaaEvText
namespace Go.Proofs.Ythjhgefopkkkdaa.Pure
open Go.RowKit Go.Proofs.YthjhgefopkkkdaaW.PrintWords Go.Proofs.Ythjhgefopkkkdaa.Plain Go.Proofs.Ythjhgefopkkkdaa.A
theorem FnExactTextOk : laws_FnExactTextOk.Pure := by
  intro s hs
  apply Ev.rounds
  unfold laws_FnExactTextOk.f
  refine Ev.ite (fun _ => Ev.now _) (fun _ => ?_)
  refine Ev.bind (sTextOk s (by omega)) ?_
  refine Ev.call (iTextOk s (by omega)) ?_
  exact Ev.neg (by simp) (Ev.now _)
end Go.Proofs.Ythjhgefopkkkdaa.Pure
