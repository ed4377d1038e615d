/- What the printed functions on ends come to. -/
import Derived.Test.YtkbpomalikbphaaAx1
import Derived.Test.YtkbpomalikbphaaBytes
namespace Go.Proofs.Ytkbpomalikbphaa.Pure
open Go.RowKit Go.Proofs.YtkbpomalikbphaaW.PrintWords Go.Proofs.Ytkbpomalikbphaa.Plain Go.Proofs.Ytkbpomalikbphaa.A
set_option linter.unusedVariables false
set_option linter.unusedSimpArgs false

theorem l6In_eq (a b c : Int) : spec_l6In.f a b c = some (decide (b ≤ a ∧ a ≤ c)) := by
  unfold spec_l6In.f
  by_cases h : a ≥ b
  · rw [if_pos h]; simp; omega
  · rw [if_neg h]; simp; omega
theorem sDoor_eq (a p : Int) : spec_EndDoor.f a p = some (doorE a p) := by
  unfold spec_EndDoor.f doorE
  by_cases h : a = 9
  · rw [if_pos h, l6In_eq]; simp [h]
  · rw [if_neg h]; simp [h]
theorem host_eq (p : Int) (a : Int) : spec_l1Host.f a p = some (decide (1 ≤ p ∧ p ≤ 9)) := by
  unfold spec_l1Host.f; rw [l6In_eq]; rfl
theorem sIn_eq (a p : Int) : spec_EndInside.f a p = some (inE a p) := by
  unfold spec_EndInside.f inE
  rw [l6In_eq, host_eq]
  by_cases h : 1 ≤ a ∧ a ≤ 3 <;> simp [h] <;> (try rw [eq_comm, decide_eq_false_iff_not]) <;> omega
theorem sOut_eq (a p : Int) : spec_EndOutside.f a p = some (outE a p) := by
  unfold spec_EndOutside.f outE
  rw [l6In_eq, host_eq]
  by_cases h : 4 ≤ a ∧ a ≤ 6 <;> simp [h] <;> (try rw [eq_comm, decide_eq_false_iff_not]) <;> omega
end Go.Proofs.Ytkbpomalikbphaa.Pure
