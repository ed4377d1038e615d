/- The law on EndText, as plain Lean: program and reference answer alike at every end. -/
import Derived.Test.YtdphdheodloofaaDoorAx7
import Derived.Test.YtdphdheodloofaaDoorEvEndText
import Derived.Test.YtdphdheodloofaaDoorEvDraw2
namespace Go.Proofs.YtdphdheodloofaaDoor.Pure
open Go.RowKit Go.Proofs.YtdphdheodloofaaDoorW.PrintWords Go.Proofs.YtdphdheodloofaaDoor.Plain Go.Proofs.YtdphdheodloofaaDoor.A
theorem FnExactEndText (a p : Int) (_ : (Lit.int .i64 a).wf = true) (_ : (Lit.int .i64 p).wf = true) : ∃ r, laws_FnExactEndText.f r a p = some true := by
  apply Ev.rounds
  unfold laws_FnExactEndText.f
  obtain ⟨s, hs, es⟩ := sEndText a p
  obtain ⟨t, ht, et⟩ := iEndText a p
  refine Ev.call (toEnd_eq a p) ?_
  refine Ev.bind hs ?_
  refine Ev.call (toEnd_eq a p) ?_
  refine Ev.call ht ?_
  exact Ev.pos (bytesOf_toList.2 (by rw [es, et])) (Ev.now _)
end Go.Proofs.YtdphdheodloofaaDoor.Pure
