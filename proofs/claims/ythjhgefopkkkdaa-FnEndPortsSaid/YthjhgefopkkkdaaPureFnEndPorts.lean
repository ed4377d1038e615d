/- The law on ports, as plain Lean: a door has ports of its own, a host the others. -/
import Derived.Test.YthjhgefopkkkdaaAx10
import Derived.Test.YthjhgefopkkkdaaAx11
import Derived.Test.YthjhgefopkkkdaaEvEnds
import Derived.Test.YthjhgefopkkkdaaEvDraw2
namespace Go.Proofs.Ythjhgefopkkkdaa.Pure
open Go.RowKit Go.Proofs.YthjhgefopkkkdaaW.PrintWords Go.Proofs.Ythjhgefopkkkdaa.Plain Go.Proofs.Ythjhgefopkkkdaa.A
theorem drawEndDoor_ev (l : List Int) (hc : Code l) : ∃ a q, Ev (fun r => spec_DrawEndDoor.f r l) (a, q) := by
  obtain ⟨b, eb, hb, hl⟩ := open_eq l hc
  obtain ⟨a, q, p1, e1, h1, h2⟩ := end_ev b hb 0 (by omega) (by omega) (by omega)
  obtain ⟨r, hr, r0, _⟩ := pick_ev b hb p1 3 (by omega) (by omega) (by omega)
  by_cases c : r = 0
  · obtain ⟨x, hx, _⟩ := pick_ev b hb (p1 + 1) 8 (by omega) (by omega) (by omega)
    refine ⟨9, wrap64 (10 + x), ?_⟩
    unfold spec_DrawEndDoor.f
    exact Ev.call eb (Ev.bind e1 (Ev.bind hr (Ev.pos c (Ev.bind hx (Ev.now _)))))
  · refine ⟨a, q, ?_⟩
    unfold spec_DrawEndDoor.f
    exact Ev.call eb (Ev.bind e1 (Ev.bind hr (Ev.neg c (Ev.now _))))
theorem FnEndPorts : laws_FnEndPorts.Pure := by
  intro l m hl hb hw hl2 hb2 hw2
  apply Ev.rounds
  have fin : ∀ x : Bool, Ev (fun r => laws_FnEndPorts.j0 r l m x) true := by
    intro x
    cases x with
    | true => exact Ev.step (f := fun _ => some true) (fun r => by simp only [laws_FnEndPorts.j0]; rfl) (Ev.now _)
    | false =>
      refine Ev.step (f := fun r => _) (fun r => by simp only [laws_FnEndPorts.j0]; rfl) ?_
      refine Ev.neg (by decide) ?_
      obtain ⟨a, q, e⟩ := drawEndDoor_ev l (code_of hw)
      refine Ev.bind e ?_
      refine Ev.call (iDoor_eq a q) ?_
      refine Ev.call (sDoor_eq a q) ?_
      refine Ev.neg (by simp) ?_
      have hP : 1 ≤ 1 + (m.length : Int) % 17 ∧ 1 + (m.length : Int) % 17 ≤ 17 := by omega
      simp only []
      generalize 1 + (m.length : Int) % 17 = P at hP
      cases hd : doorE a q with
      | true =>
        have ha : a = 9 := by simp [doorE] at hd; omega
        subst ha
        refine Ev.pos rfl ?_
        refine Ev.call (iDoor_eq 9 P) ?_
        refine Ev.pos (by simp [doorE]; omega) ?_
        refine Ev.call (iIn_eq 9 P) ?_
        refine Ev.neg (by simp [inE]) ?_
        refine Ev.call (iOut_eq 9 P) ?_
        have : outE 9 P = false := by simp [outE]
        rw [this]; exact Ev.now _
      | false =>
        refine Ev.neg (by decide) ?_
        have out : ∀ o : Bool, outE a q = o → Ev (fun _ => (impl_EndOutside.f a q).bind fun t => if t = true then ((impl_EndOutside.f a P).bind fun t2 => some (t2 == decide (P ≤ 9))) else some true) true := by
          intro o ho
          refine Ev.call (iOut_eq a q) ?_
          cases o with
          | true =>
            refine Ev.pos ho ?_
            refine Ev.call (iOut_eq a P) ?_
            have : outE a P = decide (P ≤ 9) := by
              simp [outE] at ho
              by_cases h : P ≤ 9 <;> simp [outE, h] <;> omega
            rw [this]; simp only [BEq.rfl]; exact Ev.now _
          | false => exact Ev.neg (by rw [ho]; decide) (Ev.now _)
        refine Ev.call (iIn_eq a q) ?_
        cases hi : inE a q with
        | false => exact Ev.neg (by decide) (out _ rfl)
        | true =>
          refine Ev.pos rfl ?_
          refine Ev.call (iIn_eq a P) ?_
          have : inE a P = decide (P ≤ 9) := by
            simp [inE] at hi
            by_cases h : P ≤ 9 <;> simp [inE, h] <;> omega
          refine Ev.pos (by rw [this]; simp) ?_
          exact out _ rfl
  unfold laws_FnEndPorts.f
  exact Ev.ite (fun _ => fin _) (fun _ => fin _)
end Go.Proofs.Ythjhgefopkkkdaa.Pure
