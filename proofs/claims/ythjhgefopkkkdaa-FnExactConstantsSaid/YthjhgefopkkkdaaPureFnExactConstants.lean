/- The law on the constants, as plain Lean: it answers true. -/
import Derived.Test.YthjhgefopkkkdaaAx1
namespace Go.Proofs.Ythjhgefopkkkdaa.Pure
open Go.Proofs.Ythjhgefopkkkdaa.A
theorem FnExactConstants : laws_FnExactConstants.Pure := rfl
end Go.Proofs.Ythjhgefopkkkdaa.Pure
