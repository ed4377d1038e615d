/- What the printed functions on packets' form come to. -/
import Derived.Test.YtdphdheodloofaaDoorAx4
import Derived.Test.YtdphdheodloofaaDoorAx6
import Derived.Test.YtdphdheodloofaaDoorAx11
import Derived.Test.YtdphdheodloofaaDoorAx13
import Derived.Test.YtdphdheodloofaaDoorEvText
namespace Go.Proofs.YtdphdheodloofaaDoor.Pure
open Go.RowKit Go.Proofs.YtdphdheodloofaaDoorW.PrintWords Go.Proofs.YtdphdheodloofaaDoor.Plain Go.Proofs.YtdphdheodloofaaDoor.A
set_option linter.unusedVariables false
set_option linter.unusedSimpArgs false

theorem sAny_eq (a p : Int) : spec_l1Any.f a p = some (anyE a p) := by
  unfold spec_l1Any.f anyE
  rw [sIn_eq, sOut_eq, sDoor_eq]
  cases inE a p <;> cases outE a p <;> simp
theorem iAny_eq (a p : Int) : impl_End_any.f a p = some (anyE a p) := by
  unfold impl_End_any.f anyE
  rw [iIn_eq, iOut_eq, iDoor_eq]
  cases inE a p <;> cases outE a p <;> simp
/-- A packet in form. -/
def pktOk (k a p b q n : Int) (l : List Int) : Bool := anyE a p && anyE b q && decide (0 ≤ n ∧ n ≤ 99) && ((decide (k = 1) && textOk l && decide (l ≠ [])) || (decide (k = 2) && decide (l = [])))
theorem toList_nil (s : ByteArray) : s.toList = ([] : List UInt8) ↔ bytesOf s = [] := by
  have := bytesOf_toList (s := s) (t := ByteArray.empty)
  rw [show ByteArray.empty.toList = ([] : List UInt8) from by rw [ByteArray.toList_eq]; rfl] at this
  rw [this]; rfl
theorem toList_beq (s : ByteArray) : (s.toList == ([] : List UInt8)) = decide (bytesOf s = []) := by
  rw [Bool.eq_iff_iff, beq_iff_eq, decide_eq_true_eq, toList_nil]
theorem toList_emp (s : ByteArray) : s.toList.isEmpty = decide (bytesOf s = []) := by
  rw [Bool.eq_iff_iff, List.isEmpty_iff, decide_eq_true_eq, toList_nil]
theorem toList_bne (s : ByteArray) : (s.toList != ([] : List UInt8)) = decide (bytesOf s ≠ []) := by
  rw [bne, toList_beq, decide_not]
theorem sPktOk (k a p b q n : Int) (s : ByteArray) (hs : s.size ≤ 9223372036854775806) : Ev (fun r => spec_PktOk.f r k a p b q n s) (pktOk k a p b q n (bytesOf s)) := by
  unfold spec_PktOk.f pktOk
  refine Ev.call (sAny_eq a p) ?_
  have fin : ∀ (x : Bool) (hx : x = true), Ev (fun r => spec_PktOk.j0 r x k a p b q n s) false := fun x hx => Ev.step (f := fun _ => some false) (fun r => by simp only [spec_PktOk.j0]; rw [if_pos hx]) (Ev.now _)
  cases h1 : anyE a p with
  | false => simp; exact fin _ rfl
  | true =>
    simp only [if_true]
    refine Ev.call (sAny_eq b q) ?_
    cases h2 : anyE b q with
    | false => simp; exact fin _ rfl
    | true =>
      simp only [if_true]
      refine Ev.call (l6In_eq n 0 99) ?_
      by_cases h3 : 0 ≤ n ∧ n ≤ 99
      · rw [decide_eq_true h3]
        simp only [Bool.not_true, Bool.true_and]
        refine Ev.step (f := fun r => if k = 1 then ((spec_TextOk.f r s).bind fun t => (if t = true then (some (!s.toList.isEmpty)) else (some false))) else (if k = 2 then (some s.toList.isEmpty) else (some false))) (fun r => by simp only [spec_PktOk.j0]; rw [if_neg (by decide)]) ?_
        by_cases hk : k = 1
        · simp only [hk, if_true]
          refine Ev.bind (sTextOk s hs) ?_
          cases ht : textOk (bytesOf s) with
          | false => simp; exact Ev.now _
          | true => simp only [if_true, toList_emp]; simp; exact Ev.now _
        · simp only [if_neg hk]
          by_cases hk2 : k = 2
          · simp only [hk2, if_true, toList_emp]; simp; exact Ev.now _
          · simp [hk, hk2]; exact Ev.now _
      · rw [decide_eq_false h3]
        simp; exact fin _ rfl
theorem iPktOk (k a p b q n : Int) (s : ByteArray) (hs : s.size ≤ 140737488355328) : impl_PktOk.f k a p b q n s = some (pktOk k a p b q n (bytesOf s)) := by
  unfold impl_PktOk.f pktOk
  rw [iAny_eq, iAny_eq, within_eq, iTextOk s hs, toList_emp]
  simp only [toList_nil]
  cases anyE a p <;> cases anyE b q <;> by_cases h3 : 0 ≤ n ∧ n ≤ 99 <;> by_cases hk : k = 1 <;> by_cases hk2 : k = 2 <;> cases textOk (bytesOf s) <;> by_cases he : bytesOf s = [] <;> simp [h3, hk, hk2, he] <;> omega
theorem szPkt_eq (k a p b q n : Int) (s : ByteArray) (hs : s.size ≤ 9223372036854775807) : ∃ t, laws_szPkt.f k a p b q n s 1048576 = some t ∧ (¬ t < 0 → s.size ≤ 1048576) := by
  unfold laws_szPkt.f
  rw [wrap_id (by omega) (by omega)]
  by_cases h : (1048576 : Int) - (s.size : Int) < 0
  · rw [if_pos h]; exact ⟨-1, rfl, fun h => absurd (by decide) h⟩
  · rw [if_neg h]; exact ⟨_, rfl, fun _ => by omega⟩
theorem toPkt_eq (k a p b q n : Int) (s : ByteArray) : laws_toPkt.f k a p b q n s = some (k, a, p, b, q, n, s) := rfl

end Go.Proofs.YtdphdheodloofaaDoor.Pure
