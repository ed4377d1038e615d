/- What the printed functions on packets' form come to. -/
import Derived.Test.YtkbpomalikbphaaAx1
import Derived.Test.YtkbpomalikbphaaEvText
namespace Go.Proofs.Ytkbpomalikbphaa.Pure
open Go.RowKit Go.Proofs.YtkbpomalikbphaaW.PrintWords Go.Proofs.Ytkbpomalikbphaa.Plain Go.Proofs.Ytkbpomalikbphaa.A
set_option linter.unusedVariables false
set_option linter.unusedSimpArgs false

theorem sAny_eq (a p : Int) : spec_l1Any.f a p = some (anyE a p) := by
  unfold spec_l1Any.f anyE
  rw [sIn_eq, sOut_eq, sDoor_eq]
  cases inE a p <;> cases outE a p <;> simp
/-- A packet in form. -/
def pktOk (k a p b q n : Int) (l : List Int) : Bool := anyE a p && anyE b q && decide (0 ≤ n ∧ n ≤ 99) && ((decide (k = 1) && textOk l && decide (l ≠ [])) || (decide (k = 2) && decide (l = [])))
theorem toList_nil (s : ByteArray) : s.toList = ([] : List UInt8) ↔ bytesOf s = [] := by
  have := bytesOf_toList (s := s) (t := ByteArray.empty)
  rw [show ByteArray.empty.toList = ([] : List UInt8) from by rw [ByteArray.toList_eq]; rfl] at this
  rw [this]; rfl
theorem toList_beq (s : ByteArray) : (s.toList == ([] : List UInt8)) = decide (bytesOf s = []) := by
  rw [Bool.eq_iff_iff, beq_iff_eq, decide_eq_true_eq, toList_nil]
theorem toList_emp (s : ByteArray) : s.toList.isEmpty = decide (bytesOf s = []) := by
  rw [Bool.eq_iff_iff, List.isEmpty_iff, decide_eq_true_eq, toList_nil]
theorem toList_bne (s : ByteArray) : (s.toList != ([] : List UInt8)) = decide (bytesOf s ≠ []) := by
  rw [bne, toList_beq, decide_not]
end Go.Proofs.Ytkbpomalikbphaa.Pure
