/- What the printed function that draws a text, seldom spoilt, comes to: some text, short enough. -/
import Derived.Test.YthjhgefopkkkdaaAx18
import Derived.Test.YthjhgefopkkkdaaEvDraw2
namespace Go.Proofs.Ythjhgefopkkkdaa.Pure
open Go.RowKit Go.Proofs.YthjhgefopkkkdaaW.PrintWords Go.Proofs.YthjhgefopkkkdaaW.PrintMore Go.Proofs.Ythjhgefopkkkdaa.Plain Go.Proofs.Ythjhgefopkkkdaa.A
set_option linter.unusedVariables false
set_option linter.unusedSimpArgs false

theorem many_loop : ∀ (d n : Nat) (x s : ByteArray), n ≤ d → n ≤ 1000 → s.size + x.size * n ≤ 1000 → x.size ≤ 1000 →
    ∃ t, Ev (fun k => spec_l6Many.l0 k x (n : Int) s) t ∧ t.size = s.size + x.size * n
  | 0, n, x, s, hd, _, _, _ => by
    obtain rfl : n = 0 := by omega
    exact ⟨s, Ev.step (f := fun _ => some s) (fun k => by simp only [spec_l6Many.l0]; rw [if_neg (by omega)]) (Ev.now _), by omega⟩
  | d + 1, n, x, s, hd, hn1, h1, hx => by
    by_cases hn : n = 0
    · subst hn
      exact ⟨s, Ev.step (f := fun _ => some s) (fun k => by simp only [spec_l6Many.l0]; rw [if_neg (by omega)]) (Ev.now _), by omega⟩
    · have e1 : wrap64 (Int.tdiv (n : Int) 2) = ((n / 2 : Nat) : Int) := by
        rw [Int.tdiv_eq_ediv_of_nonneg (by omega), wrap_id (by omega) (by omega)]; omega
      have e2 : Int.tmod (n : Int) 2 = ((n % 2 : Nat) : Int) := by rw [Int.tmod_eq_emod_of_nonneg (by omega)]; omega
      have hx2 : (x ++ x).size = 2 * x.size := by rw [ByteArray.size_append]; omega
      have hm : (x ++ x).size * (n / 2) = 2 * (x.size * (n / 2)) := by rw [hx2, Nat.mul_assoc]
      rcases Nat.mod_two_eq_zero_or_one n with h | h
      · have hz : x.size * n = 2 * (x.size * (n / 2)) := by
          have : n = 2 * (n / 2) := by omega
          conv => lhs; rw [this]
          exact Nat.mul_left_comm _ _ _
        by_cases hbig : x.size ≤ 500
        · obtain ⟨t, ht, et⟩ := many_loop d (n / 2) (x ++ x) s (by omega) (by omega) (by omega) (by omega)
          refine ⟨t, Ev.step (f := fun k => _) (fun k => by simp only [spec_l6Many.l0]; rw [if_pos (by omega), e1, e2, h]) ?_, by omega⟩
          refine Ev.neg (by decide) ?_
          refine Ev.pos (by omega) ?_
          exact ht
        · exfalso
          have : x.size * 2 ≤ x.size * n := Nat.mul_le_mul_left _ (by omega)
          omega
      · have hz : x.size * n = 2 * (x.size * (n / 2)) + x.size := by
          have : n = 2 * (n / 2) + 1 := by omega
          conv => lhs; rw [this]
          rw [Nat.mul_add, Nat.mul_one, Nat.mul_left_comm]
        by_cases hn3 : n = 1
        · subst hn3
          refine ⟨s ++ x, Ev.step (f := fun k => _) (fun k => by simp only [spec_l6Many.l0]; rw [if_pos (by omega), e1, e2]) ?_, by rw [ByteArray.size_append]; omega⟩
          refine Ev.pos (by decide) ?_
          refine Ev.pos (by omega) ?_
          refine Ev.pos (by omega) ?_
          exact Ev.step (f := fun _ => some (s ++ x)) (fun k => by simp only [spec_l6Many.l0]; rw [if_neg (by decide)]) (Ev.now _)
        · have hq : x.size * 3 ≤ x.size * n := Nat.mul_le_mul_left _ (by omega)
          obtain ⟨t, ht, et⟩ := many_loop d (n / 2) (x ++ x) (s ++ x) (by omega) (by omega) (by have := ByteArray.size_append (a := s) (b := x); omega) (by omega)
          have hsx := ByteArray.size_append (a := s) (b := x)
          refine ⟨t, Ev.step (f := fun k => _) (fun k => by simp only [spec_l6Many.l0]; rw [if_pos (by omega), e1, e2, h]) ?_, by omega⟩
          refine Ev.pos (by decide) ?_
          refine Ev.pos (by omega) ?_
          refine Ev.pos (by omega) ?_
          exact ht
theorem off_ev (b : List Int) (hb : Code b) (p : Int) (h0 : 0 ≤ p) (hp : p ≤ 1099500000000) (hl : b.length ≤ 1000000) :
    ∃ t p', Ev (fun k => spec_l71Off.f k b p) (t, p') ∧ t.size ≤ 100 ∧ p ≤ p' ∧ p' ≤ p + 40 := by
  obtain ⟨t, p1, ht, hs, h1, h2⟩ := text_ev b hb p h0 (by omega) hl 30 (by omega) (by omega)
  obtain ⟨r, hr, r0, _⟩ := pick_ev b hb p1 24 (by omega) (by omega) hl
  unfold spec_l71Off.f
  by_cases c0 : r = 0
  · refine ⟨t ++ (⟨#[32]⟩ : ByteArray), p1 + 1, ?_, ?_, by omega, by omega⟩
    · refine Ev.bind ht ?_
      refine Ev.bind hr ?_
      refine Ev.pos c0 ?_
      refine Ev.pos (show t.size + 1 ≤ 9223372036854775807 from by omega) ?_
      exact Ev.now _
    · have e1 : (⟨#[32]⟩ : ByteArray).size = 1 := rfl
      rw [ByteArray.size_append, e1]; omega
  · by_cases c1 : r = 1
    · obtain ⟨q, hq, q0, q1, _⟩ := pick_ev b hb (p1 + 1) 5 (by omega) (by omega) hl
      have q2 := q1 (by omega)
      obtain ⟨n, rfl⟩ := Int.eq_ofNat_of_zero_le q0
      have ea : (⟨#[97]⟩ : ByteArray).size = 1 := rfl
      have ez : (⟨#[]⟩ : ByteArray).size = 0 := rfl
      obtain ⟨u, hu, eu⟩ := many_loop (38 + n) (38 + n) ⟨#[97]⟩ ⟨#[]⟩ (Nat.le_refl _) (by omega) (by rw [ea, ez]; omega) (by rw [ea]; omega)
      rw [ea, ez] at eu
      refine ⟨u, p1 + 1 + 1, ?_, by omega, by omega, by omega⟩
      refine Ev.bind ht ?_
      refine Ev.bind hr ?_
      refine Ev.neg c0 ?_
      refine Ev.pos c1 ?_
      refine Ev.bind hq ?_
      refine Ev.bind (a := u) ?_ (Ev.now _)
      have ew : wrap64 (38 + (n : Int)) = ((38 + n : Nat) : Int) := by rw [wrap_id (by omega) (by omega)]; omega
      simp only [ew]
      exact hu
    · refine ⟨t, p1 + 1, ?_, by omega, by omega, by omega⟩
      refine Ev.bind ht ?_
      refine Ev.bind hr ?_
      refine Ev.neg c0 ?_
      refine Ev.neg c1 ?_
      exact Ev.now _

end Go.Proofs.Ythjhgefopkkkdaa.Pure
