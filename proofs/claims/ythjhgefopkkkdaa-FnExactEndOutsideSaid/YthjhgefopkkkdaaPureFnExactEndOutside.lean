/- The law on EndOutside, as plain Lean: program and reference answer alike at every end. -/
import Derived.Test.YthjhgefopkkkdaaAx7
import Derived.Test.YthjhgefopkkkdaaEvEnds
namespace Go.Proofs.Ythjhgefopkkkdaa.Pure
open Go.RowKit Go.Proofs.YthjhgefopkkkdaaW.PrintWords Go.Proofs.Ythjhgefopkkkdaa.A
theorem FnExactEndOutside (a p : Int) (_ : (Lit.int .i64 a).wf = true) (_ : (Lit.int .i64 p).wf = true) : laws_FnExactEndOutside.f a p = some true := by
  unfold laws_FnExactEndOutside.f
  simp [toEnd_eq, iOut_eq, sOut_eq]
end Go.Proofs.Ythjhgefopkkkdaa.Pure
