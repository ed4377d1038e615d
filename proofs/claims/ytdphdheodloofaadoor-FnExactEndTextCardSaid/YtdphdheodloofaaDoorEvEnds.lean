/- What the printed functions on ends come to. -/
import Derived.Test.YtdphdheodloofaaDoorAx3
import Derived.Test.YtdphdheodloofaaDoorAx4
import Derived.Test.YtdphdheodloofaaDoorAx6
import Derived.Test.YtdphdheodloofaaDoorBytes
namespace Go.Proofs.YtdphdheodloofaaDoor.Pure
open Go.RowKit Go.Proofs.YtdphdheodloofaaDoorW.PrintWords Go.Proofs.YtdphdheodloofaaDoor.Plain Go.Proofs.YtdphdheodloofaaDoor.A
set_option linter.unusedVariables false
set_option linter.unusedSimpArgs false

theorem l6In_eq (a b c : Int) : spec_l6In.f a b c = some (decide (b ≤ a ∧ a ≤ c)) := by
  unfold spec_l6In.f
  by_cases h : a ≥ b
  · rw [if_pos h]; simp; omega
  · rw [if_neg h]; simp; omega
theorem within_eq (a b c : Int) : impl_within.f a b c = some (decide (b ≤ a ∧ a ≤ c)) := by
  unfold impl_within.f
  by_cases h : a ≥ b
  · rw [if_pos h]; simp; omega
  · rw [if_neg h]; simp; omega
theorem sDoor_eq (a p : Int) : spec_EndDoor.f a p = some (doorE a p) := by
  unfold spec_EndDoor.f doorE
  by_cases h : a = 9
  · rw [if_pos h, l6In_eq]; simp [h]
  · rw [if_neg h]; simp [h]
theorem iDoor_eq (a p : Int) : impl_EndDoor.f a p = some (doorE a p) := by
  unfold impl_EndDoor.f doorE
  by_cases h : a = 9
  · rw [if_pos h, within_eq]; simp [h]
  · rw [if_neg h]; simp [h]
theorem host_eq (p : Int) (a : Int) : spec_l1Host.f a p = some (decide (1 ≤ p ∧ p ≤ 9)) := by
  unfold spec_l1Host.f; rw [l6In_eq]; rfl
theorem sIn_eq (a p : Int) : spec_EndInside.f a p = some (inE a p) := by
  unfold spec_EndInside.f inE
  rw [l6In_eq, host_eq]
  by_cases h : 1 ≤ a ∧ a ≤ 3 <;> simp [h] <;> (try rw [eq_comm, decide_eq_false_iff_not]) <;> omega
theorem iIn_eq (a p : Int) : impl_EndInside.f a p = some (inE a p) := by
  unfold impl_EndInside.f inE
  rw [within_eq, within_eq]
  by_cases h : 1 ≤ a ∧ a ≤ 3 <;> simp [h] <;> (try rw [eq_comm, decide_eq_false_iff_not]) <;> omega
theorem sOut_eq (a p : Int) : spec_EndOutside.f a p = some (outE a p) := by
  unfold spec_EndOutside.f outE
  rw [l6In_eq, host_eq]
  by_cases h : 4 ≤ a ∧ a ≤ 6 <;> simp [h] <;> (try rw [eq_comm, decide_eq_false_iff_not]) <;> omega
theorem iOut_eq (a p : Int) : impl_EndOutside.f a p = some (outE a p) := by
  unfold impl_EndOutside.f outE
  rw [within_eq, within_eq]
  by_cases h : 4 ≤ a ∧ a ≤ 6 <;> simp [h] <;> (try rw [eq_comm, decide_eq_false_iff_not]) <;> omega
theorem toEnd_eq (a p : Int) : laws_toEnd.f a p = some (a, p) := rfl

end Go.Proofs.YtdphdheodloofaaDoor.Pure
