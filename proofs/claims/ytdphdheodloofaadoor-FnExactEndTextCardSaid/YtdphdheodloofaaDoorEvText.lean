/- What the printed functions on texts come to: TextOk, and what is held. -/
import Derived.Test.YtdphdheodloofaaDoorAx10
import Derived.Test.YtdphdheodloofaaDoorAx11
import Derived.Test.YtdphdheodloofaaDoorAx18
import Derived.Test.YtdphdheodloofaaDoorAx24
import Derived.Test.YtdphdheodloofaaDoorAx25
import Derived.Test.YtdphdheodloofaaDoorEvEnds
namespace Go.Proofs.YtdphdheodloofaaDoor.Pure
open Go.RowKit Go.Proofs.YtdphdheodloofaaDoorW.PrintWords Go.Proofs.YtdphdheodloofaaDoorW.PrintMore Go.Proofs.YtdphdheodloofaaDoor.Plain Go.Proofs.YtdphdheodloofaaDoor.A
set_option linter.unusedVariables false
set_option linter.unusedSimpArgs false

theorem l2Byte_eq (c : Int) : spec_l2Byte.f c = some (okb c) := by
  unfold spec_l2Byte.f okb
  repeat' split
  all_goals (congr 1; first | (symm; rw [decide_eq_true_eq]; omega) | (rw [Bool.eq_iff_iff, beq_iff_eq, decide_eq_true_eq]; omega))
theorem tokb_eq (c : Int) : tokb c = okb c := rfl
theorem all_rd (s : ByteArray) (f : Int → Bool) : (bytesOf s).all f = true ↔ ∀ i : Nat, i < s.size → f (bt s i) = true := by
  rw [List.all_eq_true]
  constructor
  · intro h i hi
    have hl : i < (bytesOf s).length := by rw [bytesOf_size]; exact hi
    have e : bt s i = (bytesOf s)[i] := by rw [bt_rd]; simp [rd, List.getD_eq_getElem?_getD, List.getElem?_eq_getElem hl]
    rw [e]; exact h _ (List.getElem_mem hl)
  · intro h x hx
    obtain ⟨i, hl, rfl⟩ := List.getElem_of_mem hx
    have e : bt s i = (bytesOf s)[i] := by rw [bt_rd]; simp [rd, List.getD_eq_getElem?_getD, List.getElem?_eq_getElem hl]
    rw [← e]; exact h i (by rwa [bytesOf_size] at hl)
theorem sTextOk_loop (s : ByteArray) (hs : s.size ≤ 9223372036854775806) : ∀ (d : Nat) (i : Nat), i + d = s.size → (∀ j : Nat, j < i → okb (bt s j) = true) → Ev (fun k => spec_TextOk.l0 k s i) (textOk (bytesOf s)) := by
  intro d
  induction d with
  | zero =>
    intro i hi ha
    refine Ev.step (f := fun _ => some (decide ((s.size : Int) ≤ 40))) (fun k => ?_) ?_
    · simp only [spec_TextOk.l0]; rw [if_neg (by omega)]
    · have e : textOk (bytesOf s) = decide ((s.size : Int) ≤ 40) := by
        unfold textOk
        rw [(all_rd s okb).2 (fun j hj => ha j (by omega)), bytesOf_size, Bool.true_and]
        by_cases h : s.size ≤ 40
        · rw [decide_eq_true h, decide_eq_true (by omega)]
        · rw [decide_eq_false h, decide_eq_false (by omega)]
      rw [e]; exact Ev.now _
  | succ d ih =>
    intro i hi ha
    cases hb : okb (bt s i) with
    | true =>
      refine Ev.step (f := fun k => spec_TextOk.l0 k s ((i + 1 : Nat) : Int)) (fun k => ?_) (ih (i + 1) (by omega) (fun j hj => ?_))
      · simp only [spec_TextOk.l0]; rw [if_pos (by omega), if_pos (by omega), l2Byte_eq, hb, wrap_id (by omega) (by omega)]; rfl
      · by_cases e : j = i
        · subst e; exact hb
        · exact ha j (by omega)
    | false =>
      refine Ev.step (f := fun _ => some false) (fun k => ?_) ?_
      · simp only [spec_TextOk.l0]; rw [if_pos (by omega), if_pos (by omega), l2Byte_eq, hb]; rfl
      · have e : textOk (bytesOf s) = false := by
          unfold textOk
          rw [Bool.and_eq_false_iff]; left
          cases h : (bytesOf s).all okb with
          | false => rfl
          | true => have := (all_rd s okb).1 h i (by omega); rw [hb] at this; cases this
        rw [e]; exact Ev.now _
theorem sTextOk (s : ByteArray) (hs : s.size ≤ 9223372036854775806) : Ev (fun k => spec_TextOk.f k s) (textOk (bytesOf s)) :=
  sTextOk_loop s hs s.size 0 (by omega) (fun j hj => absurd hj (Nat.not_lt_zero _))
theorem iTextOk (s : ByteArray) (hs : s.size ≤ 140737488355328) : impl_TextOk.f s = some (textOk (bytesOf s)) := by
  unfold impl_TextOk.f textOk
  rw [if_pos hs, bytesOf_size]; rfl

theorem digit_eq (c : Int) (h : 0 ≤ c ∧ c ≤ 255) : spec_l1Digit.f c = some (if 48 ≤ c ∧ c ≤ 57 then c - 48 else -1) := by
  unfold spec_l1Digit.f
  by_cases h1 : c < 48
  · rw [if_pos h1, if_neg (by omega)]
  · rw [if_neg h1]
    by_cases h2 : c > 57
    · rw [if_pos h2, if_neg (by omega)]
    · rw [if_neg h2, if_pos (by omega)]; congr 1; omega
theorem digit_lt (c : Int) (h : 0 ≤ c ∧ c ≤ 255) : ∃ t, spec_l1Digit.f c = some t ∧ (t < 1 ↔ ¬ (49 ≤ c ∧ c ≤ 57)) ∧ (t ≥ 0 ↔ (48 ≤ c ∧ c ≤ 57)) := by
  refine ⟨_, digit_eq c h, ?_⟩
  split <;> omega
/-- Up to five bytes, or more. -/
theorem short_cases (l : List Int) : l = [] ∨ (∃ a, l = [a]) ∨ (∃ a b, l = [a, b]) ∨ (∃ a b c, l = [a, b, c]) ∨ (∃ a b c d, l = [a, b, c, d]) ∨ (∃ a b c d e, l = [a, b, c, d, e]) ∨ (∃ a b c d e f r, l = a :: b :: c :: d :: e :: f :: r) := by
  match l with
  | [] => simp
  | [a] => simp
  | [a, b] => simp
  | [a, b, c] => simp
  | [a, b, c, d] => simp
  | [a, b, c, d, e] => simp
  | a :: b :: c :: d :: e :: f :: r => simp
theorem l2Begins_eq (s : ByteArray) : spec_l2Begins.f s = some (begins (bytesOf s)) := by
  unfold spec_l2Begins.f
  rw [l6In_eq]
  simp only [bt_rd, ← bytesOf_size]
  have hr := bytesOf_range s
  generalize bytesOf s = l at hr
  rcases short_cases l with rfl | ⟨a, rfl⟩ | ⟨a, b, rfl⟩ | ⟨a, b, c, rfl⟩ | ⟨a, b, c, d, rfl⟩ | ⟨a, b, c, d, e, rfl⟩ | ⟨a, b, c, d, e, f, r, rfl⟩
  · simp [begins]
  · simp [begins, rd]
    by_cases h1 : a = 64 <;> simp [h1]
  · obtain ⟨t1, e1, g1, _⟩ := digit_lt b (hr b (by simp))
    simp [begins, rd, e1]
    by_cases h1 : a = 64 <;> by_cases h2 : t1 < 1 <;> simp [h1, h2] <;> omega
  · obtain ⟨t1, e1, g1, _⟩ := digit_lt b (hr b (by simp))
    simp [begins, rd, e1]
    by_cases h1 : a = 64 <;> by_cases h2 : t1 < 1 <;> by_cases h3 : c = 58 <;> simp [h1, h2, h3] <;> omega
  · obtain ⟨t1, e1, g1, _⟩ := digit_lt b (hr b (by simp))
    obtain ⟨t2, e2, g2, _⟩ := digit_lt d (hr d (by simp))
    simp [begins, rd, e1, e2]
    by_cases h1 : a = 64 <;> by_cases h2 : t1 < 1 <;> by_cases h3 : c = 58 <;> by_cases h4 : t2 < 1 <;> simp [h1, h2, h3, h4] <;> omega
  · obtain ⟨t1, e1, g1, _⟩ := digit_lt b (hr b (by simp))
    obtain ⟨t2, e2, g2, _⟩ := digit_lt d (hr d (by simp))
    obtain ⟨t3, e3, _, g3⟩ := digit_lt e (hr e (by simp))
    simp [begins, rd, e1, e2, e3]
    by_cases h1 : a = 64 <;> by_cases h2 : t1 < 1 <;> by_cases h3 : c = 58 <;> by_cases h4 : t2 < 1 <;> by_cases h5 : t3 ≥ 0 <;> simp [h1, h2, h3, h4, h5] <;> omega
  · have : ¬ ((1 : Int) ≤ ((a :: b :: c :: d :: e :: f :: r).length : Int) ∧ ((a :: b :: c :: d :: e :: f :: r).length : Int) ≤ 5) := by
      simp only [List.length_cons]; omega
    rw [decide_eq_false this]
    rfl
theorem beginning_eq (s : ByteArray) (h0 : 1 ≤ s.size) (h1 : s.size ≤ 140737488355328) : impl_beginning.f s = some (begins (bytesOf s)) := by
  unfold impl_beginning.f
  rw [if_pos h1]
  congr 1
  simp only [bt_rd, ← bytesOf_size] at h0 ⊢
  generalize bytesOf s = l at h0
  rcases short_cases l with rfl | ⟨a, rfl⟩ | ⟨a, b, rfl⟩ | ⟨a, b, c, rfl⟩ | ⟨a, b, c, d, rfl⟩ | ⟨a, b, c, d, e, rfl⟩ | ⟨a, b, c, d, e, f, r, rfl⟩
  · simp at h0
  · simp [begins, rd, begb, List.range_succ]
    rw [Bool.eq_iff_iff]; simp
  · simp [begins, rd, begb, List.range_succ]
    rw [Bool.eq_iff_iff]; simp
  · simp [begins, rd, begb, List.range_succ]
    rw [Bool.eq_iff_iff]; simp; omega
  · simp [begins, rd, begb, List.range_succ]
    rw [Bool.eq_iff_iff]; simp; omega
  · simp [begins, rd, begb, List.range_succ]
    rw [Bool.eq_iff_iff]; simp; omega
  · have : begins (a :: b :: c :: d :: e :: f :: r) = false := rfl
    rw [this, List.all_eq_false]
    exact ⟨5, by rw [List.mem_range]; simp only [List.length_cons]; omega, by simp [begb]⟩
/-- The two loops that look for the longest end that begins a name. -/
theorem held_step (s : ByteArray) (n : Nat) (hn : n + 1 ≤ s.size) (hs : s.size ≤ 140737488355328) : bytesOf (s.extract (wrap64 ((s.size : Int) - ((n + 1 : Nat) : Int))).toNat s.size) = (bytesOf s).drop ((bytesOf s).length - (n + 1)) := by
  rw [wrap_id (by omega) (by omega), bytesOf_to_end, bytesOf_size]
  congr 1; omega
theorem sHeld_loop (s : ByteArray) (hs : s.size ≤ 140737488355328) : ∀ n : Nat, n ≤ s.size → Ev (fun k => spec_l2Held.l0 k s (n : Int)) (heldFrom (bytesOf s) n : Int)
  | 0, _ => by
    refine Ev.step (f := fun _ => some 0) (fun k => ?_) (Ev.now _)
    simp only [spec_l2Held.l0]; rw [if_neg (by omega)]
  | n + 1, hn => by
    have e1 := held_step s n hn hs
    have e2 := l2Begins_eq (s.extract (wrap64 ((s.size : Int) - ((n + 1 : Nat) : Int))).toNat s.size)
    rw [e1] at e2
    have hw : wrap64 ((s.size : Int) - ((n + 1 : Nat) : Int)) = (s.size : Int) - ((n + 1 : Nat) : Int) := wrap_id (by omega) (by omega)
    cases hb : begins ((bytesOf s).drop ((bytesOf s).length - (n + 1))) with
    | true =>
      refine Ev.step (f := fun _ => some ((n + 1 : Nat) : Int)) (fun k => ?_) ?_
      · simp only [spec_l2Held.l0]; rw [if_pos (by omega), if_pos (by rw [hw]; omega), if_pos (by rw [hw]; omega), e2, hb]; rfl
      · simp only [heldFrom, hb, if_true]; exact Ev.now _
    | false =>
      refine Ev.step (f := fun k => spec_l2Held.l0 k s (n : Int)) (fun k => ?_) ?_
      · simp only [spec_l2Held.l0]; rw [if_pos (by omega), if_pos (by rw [hw]; omega), if_pos (by rw [hw]; omega), e2, hb, show wrap64 (((n + 1 : Nat) : Int) - 1) = (n : Int) from by rw [wrap_id (by omega) (by omega)]; omega]; rfl
      · simp only [heldFrom, hb]; exact sHeld_loop s hs n (by omega)
theorem iHeld_loop (s : ByteArray) (hs : s.size ≤ 140737488355328) : ∀ n : Nat, n ≤ s.size → Ev (fun k => impl_held.l0 k s (n : Int)) (heldFrom (bytesOf s) n : Int)
  | 0, _ => by
    refine Ev.step (f := fun _ => some 0) (fun k => ?_) (Ev.now _)
    simp only [impl_held.l0]; rw [if_neg (by omega)]
  | n + 1, hn => by
    have e1 := held_step s n hn hs
    have hw : wrap64 ((s.size : Int) - ((n + 1 : Nat) : Int)) = (s.size : Int) - ((n + 1 : Nat) : Int) := wrap_id (by omega) (by omega)
    have hz : (s.extract (wrap64 ((s.size : Int) - ((n + 1 : Nat) : Int))).toNat s.size).size = n + 1 := by
      rw [← bytesOf_size, e1, List.length_drop, bytesOf_size]; omega
    have e2 := beginning_eq (s.extract (wrap64 ((s.size : Int) - ((n + 1 : Nat) : Int))).toNat s.size) (by omega) (by omega)
    rw [e1] at e2
    cases hb : begins ((bytesOf s).drop ((bytesOf s).length - (n + 1))) with
    | true =>
      refine Ev.step (f := fun _ => some ((n + 1 : Nat) : Int)) (fun k => ?_) ?_
      · simp only [impl_held.l0]; rw [if_pos (by omega), if_pos (by rw [hw]; omega), if_pos (by rw [hw]; omega), e2, hb]; rfl
      · simp only [heldFrom, hb, if_true]; exact Ev.now _
    | false =>
      refine Ev.step (f := fun k => impl_held.l0 k s (n : Int)) (fun k => ?_) ?_
      · simp only [impl_held.l0]; rw [if_pos (by omega), if_pos (by rw [hw]; omega), if_pos (by rw [hw]; omega), e2, hb, show wrap64 (((n + 1 : Nat) : Int) - 1) = (n : Int) from by rw [wrap_id (by omega) (by omega)]; omega]; rfl
      · simp only [heldFrom, hb]; exact iHeld_loop s hs n (by omega)
theorem mn5 (n : Nat) : mn 5 (n : Int) = ((min 5 n : Nat) : Int) := by unfold mn; split <;> omega
theorem sHeld (s : ByteArray) (hs : s.size ≤ 140737488355328) : Ev (fun k => spec_l2Held.f k s) (held (bytesOf s) : Int) := by
  unfold spec_l2Held.f held
  rw [mn5, bytesOf_size]
  exact sHeld_loop s hs _ (by omega)
theorem iHeld (s : ByteArray) (hs : s.size ≤ 140737488355328) : Ev (fun k => impl_held.f k s) (held (bytesOf s) : Int) := by
  unfold impl_held.f held
  rw [mn5, bytesOf_size]
  exact iHeld_loop s hs _ (by omega)
/-- What TextHeld tells. -/
def textHeld (l : List Int) : Int := if textOk l = true then (held l : Int) else 0
theorem sTextHeld (s : ByteArray) (hs : s.size ≤ 140737488355328) : Ev (fun k => spec_TextHeld.f k s) (textHeld (bytesOf s)) := by
  unfold spec_TextHeld.f textHeld
  refine Ev.bind (sTextOk s (by omega)) ?_
  by_cases h : textOk (bytesOf s) = true
  · simp only [if_pos h]; exact Ev.bind (sHeld s hs) (Ev.now _)
  · simp only [if_neg h]; exact Ev.now _
theorem iTextHeld (s : ByteArray) (hs : s.size ≤ 140737488355328) : Ev (fun k => impl_TextHeld.f k s) (textHeld (bytesOf s)) := by
  unfold impl_TextHeld.f textHeld
  refine Ev.call (iTextOk s (by omega)) ?_
  by_cases h : textOk (bytesOf s) = true
  · simp only [if_pos h]; exact Ev.bind (iHeld s hs) (Ev.now _)
  · simp only [if_neg h]; exact Ev.now _

end Go.Proofs.YtdphdheodloofaaDoor.Pure
