/- The law on the sides of ends, as plain Lean: an end is inside, outside, or of the door, not two of these, and has a text just if it is one of them. -/
import Derived.Test.YtdphdheodloofaaDoorAx5
import Derived.Test.YtdphdheodloofaaDoorEvEndText
import Derived.Test.YtdphdheodloofaaDoorEvDraw5
namespace Go.Proofs.YtdphdheodloofaaDoor.Pure
open Go.RowKit Go.Proofs.YtdphdheodloofaaDoorW.PrintWords Go.Proofs.YtdphdheodloofaaDoor.Plain Go.Proofs.YtdphdheodloofaaDoor.A
theorem sides_one (a q : Int) : (inE a q && outE a q) = false ∧ (inE a q && doorE a q) = false ∧ (outE a q && doorE a q) = false := by
  simp only [inE, outE, doorE, Bool.and_eq_false_iff, decide_eq_false_iff_not]
  omega
theorem FnEndSides : laws_FnEndSides.Pure := by
  intro l hl hb hw
  apply Ev.rounds
  unfold laws_FnEndSides.f
  refine Ev.ite (fun _ => Ev.now _) (fun hsmall => ?_)
  obtain ⟨a, q, e⟩ := drawEndInside_ev l (code_of hw)
  refine Ev.bind e ?_
  refine Ev.call (iIn_eq a q) ?_
  refine Ev.call (sIn_eq a q) ?_
  refine Ev.neg (by simp) ?_
  refine Ev.call (iOut_eq a q) ?_
  refine Ev.call (iDoor_eq a q) ?_
  refine Ev.call rfl ?_
  obtain ⟨t, ht, et⟩ := iEndText a q
  obtain ⟨h1, h2, h3⟩ := sides_one a q
  have ha : anyE a q = (inE a q || outE a q || doorE a q) := rfl
  have w1 : wrap64 (0 + 1) = 1 := wrap_id (by omega) (by omega)
  have w2 : wrap64 (1 + 1) = 2 := wrap_id (by omega) (by omega)
  have w3 : wrap64 (2 + 1) = 3 := wrap_id (by omega) (by omega)
  have v1 : wrap64 1 = 1 := wrap_id (by omega) (by omega)
  have last : ∀ (n : Int) (x y z : Bool), n ≤ 1 → (n == 1) = anyE a q → Ev (fun r => laws_FnEndSides.l0 r n [x, y, z] 3 3 a q) true := by
    intro n x y z hn hq
    refine Ev.step (f := fun r => _) (fun r => by simp only [laws_FnEndSides.l0]; rfl) ?_
    refine Ev.neg (by omega) ?_
    refine Ev.pos hn ?_
    refine Ev.call ht ?_
    rw [toList_emp, et, endText_isEmpty, hq]
    cases anyE a q <;> exact Ev.now _
  have go : ∀ (n i : Int) (x y z b : Bool), 0 ≤ i → i < 3 → rdOf false [x, y, z] i = b → (Ev (fun r => laws_FnEndSides.l0 r (if b then wrap64 (n + 1) else n) [x, y, z] 3 (wrap64 (i + 1)) a q) true) → Ev (fun r => laws_FnEndSides.l0 r n [x, y, z] 3 i a q) true := by
    intro n i x y z b h0 hi hr hk
    refine Ev.step (f := fun r => _) (fun r => by simp only [laws_FnEndSides.l0]; rfl) ?_
    refine Ev.pos hi ?_
    refine Ev.pos h0 ?_
    refine Ev.pos (by simpa using hi) ?_
    rw [hr]
    cases b with
    | true => exact Ev.pos rfl hk
    | false => exact Ev.neg (by decide) hk
  show Ev (fun r => laws_FnEndSides.l0 r 0 [inE a q, outE a q, doorE a q] 3 0 a q) true
  generalize inE a q = x at *
  generalize outE a q = y at *
  generalize doorE a q = z at *
  refine go 0 0 x y z x (by omega) (by omega) rfl ?_
  rw [w1]
  refine go _ 1 x y z y (by omega) (by omega) rfl ?_
  rw [w2]
  refine go _ 2 x y z z (by omega) (by omega) rfl ?_
  rw [w3]
  cases x <;> cases y <;> cases z <;> simp [v1] at h1 h2 h3 ha ⊢ <;> exact last _ _ _ _ (by omega) (by rw [ha]; rfl)
end Go.Proofs.YtdphdheodloofaaDoor.Pure
