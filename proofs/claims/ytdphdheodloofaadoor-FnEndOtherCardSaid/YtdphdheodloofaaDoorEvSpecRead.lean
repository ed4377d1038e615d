/- What the reference's function that reads an end comes to. -/
import Derived.Test.YtdphdheodloofaaDoorAx4
import Derived.Test.YtdphdheodloofaaDoorAx6
import Derived.Test.YtdphdheodloofaaDoorAx18
import Derived.Test.YtdphdheodloofaaDoorEvDraw2
namespace Go.Proofs.YtdphdheodloofaaDoor.Pure
open Go.RowKit Go.Proofs.YtdphdheodloofaaDoorW.PrintWords Go.Proofs.YtdphdheodloofaaDoorW.PrintMore Go.Proofs.YtdphdheodloofaaDoor.Plain Go.Proofs.YtdphdheodloofaaDoor.A
set_option linter.unusedVariables false
set_option linter.unusedSimpArgs false
/-- An end that is read: itself, or none. -/
def readE (l : List Int) : Int × Int × Bool := match endRead l with | some (a, p) => (a, p, true) | none => (0, 0, false)
/-- A figure's number, or -1. -/
def dig (c : Int) : Int := if 48 ≤ c ∧ c ≤ 57 then c - 48 else -1
theorem dig_range (c : Int) : -1 ≤ dig c ∧ dig c ≤ 9 := by unfold dig; split <;> omega
theorem readE_fin (s : ByteArray) (hn : bytesOf s ≠ []) (a p : Int) (hr : ∀ b q, anyE b q = true → endText b q = bytesOf s → b = a ∧ q = p) :
    Ev (fun k => (spec_EndText.f k a p).bind fun t => if t.toList = s.toList then some (a, p, true) else some (0, 0, false)) (readE (bytesOf s)) := by
  obtain ⟨t, ht, htb⟩ := sEndText a p
  refine Ev.bind ht ?_
  by_cases h : endText a p = bytesOf s
  · refine Ev.pos (bytesOf_toList.2 (htb.trans h)) ?_
    have ha : anyE a p = true := by
      cases hc : anyE a p with
      | true => rfl
      | false => exact absurd (h.symm.trans (endText_none a p hc)) hn
    have : readE (bytesOf s) = (a, p, true) := by unfold readE; rw [(endRead_iff _ a p).2 ⟨ha, h⟩]
    rw [this]; exact Ev.now _
  · refine Ev.neg (fun hc => h (htb.symm.trans (bytesOf_toList.1 hc))) ?_
    have : readE (bytesOf s) = (0, 0, false) := by
      unfold readE
      cases hc : endRead (bytesOf s) with
      | none => rfl
      | some r =>
        obtain ⟨b, q⟩ := r
        obtain ⟨h1, h2⟩ := (endRead_iff _ b q).1 hc
        obtain ⟨rfl, rfl⟩ := hr b q h1 h2
        exact absurd h2 h
    rw [this]; exact Ev.now _
theorem endText_lens (a p : Int) (h : anyE a p = true) : (endText a p).length = 3 ∨ (endText a p).length = 4 := by
  rcases (anyE_iff a p).1 h with h2 | ⟨rfl, h2⟩
  · rw [endText_host a p h2]; exact .inl rfl
  · rw [endText_door p h2]; exact .inr rfl
theorem readE_none (l : List Int) (h : ¬ (l.length = 3 ∨ l.length = 4)) : readE l = (0, 0, false) := by
  unfold readE
  cases hc : endRead l with
  | none => rfl
  | some r =>
    obtain ⟨b, q⟩ := r
    obtain ⟨h1, h2⟩ := (endRead_iff _ b q).1 hc
    rw [← h2] at h
    exact absurd (endText_lens b q h1) h
theorem bt_list (s : ByteArray) (i : Nat) : bt s (i : Int) = (bytesOf s).getD i 0 := by rw [bt_rd]; rfl
theorem sEndRead (s : ByteArray) : Ev (fun k => spec_EndRead.f k s) (readE (bytesOf s)) := by
  have hlen := bytesOf_length s
  unfold spec_EndRead.f
  refine Ev.call (l6In_eq _ _ _) ?_
  by_cases h : 3 ≤ (s.size : Int) ∧ (s.size : Int) ≤ 4
  · refine Ev.pos (by simpa using h) ?_
    refine Ev.pos (by omega) ?_
    refine Ev.call (digit_eq (bt s 0) (bt_range s 0)) ?_
    have d0 := dig_range (bt s 0)
    have d2 := dig_range (bt s 2)
    have d3 := dig_range (bt s 3)
    have one : ∀ (a acc i : Int), 0 ≤ i → i < (s.size : Int) → -1 ≤ acc → acc ≤ 9 → Ev (fun k => spec_EndRead.l0 k s (s.size : Int) (i + 1) a (10 * acc + dig (bt s i))) (readE (bytesOf s)) →
        Ev (fun k => spec_EndRead.l0 k s (s.size : Int) i a acc) (readE (bytesOf s)) := by
      intro a acc i h0 hi l1 l2 hk
      have hd := dig_range (bt s i)
      refine Ev.step (f := fun k => _) (fun k => by simp only [spec_EndRead.l0]; rfl) ?_
      refine Ev.pos hi ?_
      refine Ev.pos h0 ?_
      refine Ev.pos hi ?_
      refine Ev.call (digit_eq (bt s i) (bt_range s i)) ?_
      have e1 : wrap64 (i + 1) = i + 1 := wrap_id (by omega) (by omega)
      have e2 : wrap64 (wrap64 (10 * acc) + dig (bt s i)) = 10 * acc + dig (bt s i) := by
        rw [wrap_id (n := 10 * acc) (by omega) (by omega), wrap_id (by omega) (by omega)]
      show Ev (fun k => spec_EndRead.l0 k s (s.size : Int) (wrap64 (i + 1)) a (wrap64 (wrap64 (10 * acc) + dig (bt s i)))) _
      rw [e1, e2]; exact hk
    have last : ∀ (a p i : Int), ¬ i < (s.size : Int) → (∀ b q, anyE b q = true → endText b q = bytesOf s → b = a ∧ q = p) → Ev (fun k => spec_EndRead.l0 k s (s.size : Int) i a p) (readE (bytesOf s)) := by
      intro a p i hi hr
      refine Ev.step (f := fun k => _) (fun k => by simp only [spec_EndRead.l0]; rfl) ?_
      refine Ev.neg hi ?_
      exact readE_fin s (fun hc => by rw [hc] at hlen; simp at hlen; omega) a p hr
    show Ev (fun k => spec_EndRead.l0 k s (s.size : Int) 2 (dig (bt s 0)) 0) _
    have b0 := bt_list s 0
    have b2 := bt_list s 2
    have b3 := bt_list s 3
    refine one _ 0 2 (by omega) (by omega) (by omega) (by omega) ?_
    by_cases h3 : s.size = 3
    · refine last _ _ _ (by omega) ?_
      intro b q hb hq
      rcases (anyE_iff b q).1 hb with hc | ⟨rfl, hc⟩
      · rw [endText_host b q hc] at hq
        rw [← hq] at b0 b2
        have e0 : bt s 0 = 48 + b := b0
        have e2 : bt s 2 = 48 + q := b2
        rw [e0, e2]
        unfold dig
        rw [if_pos (by omega), if_pos (by omega)]
        omega
      · rw [endText_door q hc] at hq
        have := congrArg List.length hq
        simp at this; omega
    · refine one _ _ 3 (by omega) (by omega) (by omega) (by omega) ?_
      refine last _ _ _ (by omega) ?_
      intro b q hb hq
      rcases (anyE_iff b q).1 hb with hc | ⟨rfl, hc⟩
      · rw [endText_host b q hc] at hq
        have := congrArg List.length hq
        simp at this; omega
      · rw [endText_door q hc] at hq
        rw [← hq] at b0 b2 b3
        have e0 : bt s 0 = 57 := b0
        have e2 : bt s 2 = 49 := b2
        have e3 : bt s 3 = 38 + q := b3
        rw [e0, e2, e3]
        unfold dig
        rw [if_pos (by omega), if_pos (by omega), if_pos (by omega)]
        omega
  · refine Ev.neg (by simpa using h) ?_
    rw [readE_none _ (by rw [hlen]; omega)]
    exact Ev.now _
end Go.Proofs.YtdphdheodloofaaDoor.Pure
