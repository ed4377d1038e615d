/- The law on EndInside, as plain Lean: program and reference answer alike at every end. -/
import Derived.Test.YthjhgefopkkkdaaAx5
import Derived.Test.YthjhgefopkkkdaaEvEnds
namespace Go.Proofs.Ythjhgefopkkkdaa.Pure
open Go.RowKit Go.Proofs.YthjhgefopkkkdaaW.PrintWords Go.Proofs.Ythjhgefopkkkdaa.A
theorem FnExactEndInside (a p : Int) (_ : (Lit.int .i64 a).wf = true) (_ : (Lit.int .i64 p).wf = true) : laws_FnExactEndInside.f a p = some true := by
  unfold laws_FnExactEndInside.f
  simp [toEnd_eq, iIn_eq, sIn_eq]
end Go.Proofs.Ythjhgefopkkkdaa.Pure
