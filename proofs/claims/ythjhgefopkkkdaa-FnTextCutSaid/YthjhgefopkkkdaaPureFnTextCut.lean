/- The law on what is cut of a text, as plain Lean: each beginning and each end of a text that is ok is ok; with another byte it is not. -/
import Derived.Test.YthjhgefopkkkdaaAx18
import Derived.Test.YthjhgefopkkkdaaAx19
import Derived.Test.YthjhgefopkkkdaaEvDraw3
namespace Go.Proofs.Ythjhgefopkkkdaa.Pure
open Go.RowKit Go.Proofs.YthjhgefopkkkdaaW.PrintWords Go.Proofs.Ythjhgefopkkkdaa.Plain Go.Proofs.Ythjhgefopkkkdaa.A
theorem drawTextOk_ev (l : List Int) (hc : Code l) : ∃ s, Ev (fun r => spec_DrawTextOk.f r l) s ∧ s.size ≤ 200 := by
  obtain ⟨b, eb, hb, hl⟩ := open_eq l hc
  obtain ⟨t, p1, ht, h1, h2, h3⟩ := off_ev b hb 0 (by omega) (by omega) (by omega)
  obtain ⟨r, hr, r0, _⟩ := pick_ev b hb p1 4 (by omega) (by omega) (by omega)
  by_cases c : r = 0
  · obtain ⟨x, hx, ex⟩ := of_ev b hb (p1 + 1) (by omega) (by omega) (by omega) [(⟨#[65]⟩ : ByteArray), (⟨#[32]⟩ : ByteArray), (⟨#[45]⟩ : ByteArray), (⟨#[122]⟩ : ByteArray)] (by simp)
    have hs : x.size = 1 := by
      simp only [List.mem_cons, List.not_mem_nil, or_false] at hx
      rcases hx with rfl | rfl | rfl | rfl <;> rfl
    refine ⟨t ++ x, ?_, by rw [ByteArray.size_append]; omega⟩
    unfold spec_DrawTextOk.f
    refine Ev.call eb ?_
    refine Ev.bind ht ?_
    refine Ev.bind hr ?_
    refine Ev.pos c ?_
    refine Ev.bind ex ?_
    refine Ev.pos (show t.size + x.size ≤ 9223372036854775807 from by omega) ?_
    exact Ev.now _
  · refine ⟨t, ?_, by omega⟩
    unfold spec_DrawTextOk.f
    refine Ev.call eb ?_
    refine Ev.bind ht ?_
    refine Ev.bind hr ?_
    refine Ev.neg c ?_
    exact Ev.now _
theorem textOk_iff (l : List Int) : textOk l = true ↔ (∀ x ∈ l, okb x = true) ∧ l.length ≤ 40 := by
  unfold textOk; rw [Bool.and_eq_true, List.all_eq_true, decide_eq_true_eq]
theorem textOk_bad (l : List Int) (x : Int) (h : x ∈ l) (hx : okb x = false) : textOk l = false := by
  cases e : textOk l with
  | false => rfl
  | true => have := ((textOk_iff l).1 e).1 x h; rw [hx] at this; cases this
theorem FnTextCut : laws_FnTextCut.Pure := by
  intro l m hl hb hw hl2 hb2 hw2
  apply Ev.rounds
  have fin : ∀ x : Bool, Ev (fun r => laws_FnTextCut.j0 r l m x) true := by
    intro x
    cases x with
    | true => exact Ev.step (f := fun _ => some true) (fun r => by simp only [laws_FnTextCut.j0]; rfl) (Ev.now _)
    | false =>
      refine Ev.step (f := fun r => _) (fun r => by simp only [laws_FnTextCut.j0]; rfl) ?_
      refine Ev.neg (by decide) ?_
      obtain ⟨s, e, hs⟩ := drawTextOk_ev l (code_of hw)
      refine Ev.bind e ?_
      refine Ev.call (iTextOk s (by omega)) ?_
      refine Ev.bind (sTextOk s (by omega)) ?_
      refine Ev.neg (by simp) ?_
      cases hk : textOk (bytesOf s) with
      | false =>
        refine Ev.step (f := fun r => (spec_TextOk.f r s).bind fun t => some (false == t)) (fun r => by simp only [laws_FnTextCut.j1]; rfl) ?_
        refine Ev.bind (sTextOk s (by omega)) ?_
        rw [hk]; exact Ev.now _
      | true =>
        obtain ⟨ha, hn⟩ := (textOk_iff _).1 hk
        rw [bytesOf_size] at hn
        have hw1 : wrap64 ((s.size : Int) + 1) = (s.size : Int) + 1 := wrap_id (by omega) (by omega)
        refine Ev.step (f := fun r => _) (fun r => by simp only [laws_FnTextCut.j1, Bool.not_true, hw1]; rfl) ?_
        refine Ev.neg (by decide) ?_
        have hj : 0 ≤ (m.length : Int) % ((s.size : Int) + 1) ∧ (m.length : Int) % ((s.size : Int) + 1) ≤ (s.size : Int) := by
          have h1 := Int.emod_nonneg (m.length : Int) (show (s.size : Int) + 1 ≠ 0 from by omega)
          have h2 := Int.emod_lt_of_pos (m.length : Int) (show 0 < (s.size : Int) + 1 from by omega)
          omega
        refine Ev.neg (by omega) ?_
        generalize (m.length : Int) % ((s.size : Int) + 1) = j at hj ⊢
        refine Ev.pos hj.1 ?_
        refine Ev.pos hj.2 ?_
        have z1 : (s.extract 0 j.toNat).size ≤ 40 := by rw [← bytesOf_size, bytesOf_from, List.length_take, bytesOf_size]; omega
        have z2 : (s.extract j.toNat s.size).size ≤ 40 := by rw [← bytesOf_size, bytesOf_to_end, List.length_drop, bytesOf_size]; omega
        have e1 : impl_TextOk.f (s.extract 0 j.toNat) = some true := by
          rw [iTextOk _ (by omega), bytesOf_from]
          congr 1
          refine (textOk_iff _).2 ⟨fun x hx => ha x (List.mem_of_mem_take hx), by rw [List.length_take, bytesOf_size]; omega⟩
        refine Ev.call e1 ?_
        refine Ev.pos rfl ?_
        have e2 : impl_TextOk.f (s.extract j.toNat s.size) = some true := by
          rw [iTextOk _ (by omega), bytesOf_to_end]
          congr 1
          refine (textOk_iff _).2 ⟨fun x hx => ha x (List.mem_of_mem_drop hx), by rw [List.length_drop, bytesOf_size]; omega⟩
        refine Ev.call e2 ?_
        refine Ev.pos rfl ?_
        refine Ev.pos (by omega) ?_
        refine Ev.pos (by omega) ?_
        have ea : (⟨#[32]⟩ : ByteArray).size = 1 := rfl
        have e3 : impl_TextOk.f (((s.extract 0 j.toNat) ++ (⟨#[32]⟩ : ByteArray)) ++ (s.extract j.toNat s.size)) = some false := by
          rw [iTextOk _ (by rw [ByteArray.size_append, ByteArray.size_append, ea]; omega), bytesOf_append, bytesOf_append]
          congr 1
          exact textOk_bad _ 32 (by rw [show bytesOf (⟨#[32]⟩ : ByteArray) = [32] from rfl]; simp) (by decide)
        refine Ev.call e3 ?_
        refine Ev.neg (by decide) ?_
        refine Ev.pos (by omega) ?_
        have e4 : impl_TextOk.f (s ++ (⟨#[65]⟩ : ByteArray)) = some false := by
          have ea : (⟨#[65]⟩ : ByteArray).size = 1 := rfl
          rw [iTextOk _ (by rw [ByteArray.size_append, ea]; omega), bytesOf_append]
          congr 1
          exact textOk_bad _ 65 (by rw [show bytesOf (⟨#[65]⟩ : ByteArray) = [65] from rfl]; simp) (by decide)
        exact Ev.call e4 (Ev.now _)
  unfold laws_FnTextCut.f
  exact Ev.ite (fun _ => fin _) (fun _ => fin _)
end Go.Proofs.Ythjhgefopkkkdaa.Pure
