/- The law on EndDoor, as plain Lean: program and reference answer alike at every end. -/
import Derived.Test.YthjhgefopkkkdaaAx3
import Derived.Test.YthjhgefopkkkdaaEvEnds
namespace Go.Proofs.Ythjhgefopkkkdaa.Pure
open Go.RowKit Go.Proofs.YthjhgefopkkkdaaW.PrintWords Go.Proofs.Ythjhgefopkkkdaa.A
theorem FnExactEndDoor (a p : Int) (_ : (Lit.int .i64 a).wf = true) (_ : (Lit.int .i64 p).wf = true) : laws_FnExactEndDoor.f a p = some true := by
  unfold laws_FnExactEndDoor.f
  simp [toEnd_eq, iDoor_eq, sDoor_eq]
end Go.Proofs.Ythjhgefopkkkdaa.Pure
