/- The law on TextHeld, as plain Lean: program and reference answer alike at every text. -/
import Derived.Test.YthjhgefopkkkdaaAx14
import Derived.Test.YthjhgefopkkkdaaEvText
namespace Go.Proofs.Ythjhgefopkkkdaa.Pure
open Go.RowKit Go.Proofs.YthjhgefopkkkdaaW.PrintWords Go.Proofs.Ythjhgefopkkkdaa.Plain Go.Proofs.Ythjhgefopkkkdaa.A
theorem FnExactTextHeld : laws_FnExactTextHeld.Pure := by
  intro s hs
  apply Ev.rounds
  unfold laws_FnExactTextHeld.f
  refine Ev.ite (fun _ => Ev.now _) (fun _ => ?_)
  refine Ev.bind (sTextHeld s (by omega)) ?_
  refine Ev.bind (iTextHeld s (by omega)) ?_
  exact Ev.pos rfl (Ev.now _)
end Go.Proofs.Ythjhgefopkkkdaa.Pure
