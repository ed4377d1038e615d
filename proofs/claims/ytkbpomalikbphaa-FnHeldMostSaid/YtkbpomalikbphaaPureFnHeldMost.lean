/- The law that no more is held than may become a name, as plain Lean. -/
import Derived.Test.YtkbpomalikbphaaAx7
import Derived.Test.YtkbpomalikbphaaEvDrawHeld
import Derived.Test.YtkbpomalikbphaaPlainHeld
namespace Go.Proofs.Ytkbpomalikbphaa.Pure
open Go.RowKit Go.Proofs.YtkbpomalikbphaaW.PrintWords Go.Proofs.Ytkbpomalikbphaa.Plain Go.Proofs.Ytkbpomalikbphaa.A
theorem FnHeldMost : laws_FnHeldMost.Pure := by
  intro l hl hb hw
  apply Ev.rounds
  unfold laws_FnHeldMost.f
  refine Ev.ite (fun _ => Ev.now _) (fun hsmall => ?_)
  obtain ⟨s, e, hs⟩ := drawTextHeld_ev l (code_of hw)
  refine Ev.bind e ?_
  refine Ev.bind (iTextHeld s (by omega)) ?_
  refine Ev.bind (sTextHeld s (by omega)) ?_
  refine Ev.pos rfl ?_
  refine Ev.bind (sTextOk s (by omega)) ?_
  have same : Ev (fun r => laws_FnHeldMost.j0 r s (textHeld (bytesOf s)) true) true := by
    refine Ev.step (f := fun r => (spec_TextHeld.f r s).bind fun t => some (textHeld (bytesOf s) == t)) (fun r => by simp only [laws_FnHeldMost.j0]; rfl) ?_
    refine Ev.bind (sTextHeld s (by omega)) ?_
    rw [BEq.rfl]; exact Ev.now _
  cases ho : textOk (bytesOf s) with
  | false => exact Ev.neg (by decide) same
  | true =>
    refine Ev.pos rfl ?_
    cases hz : s.toList.isEmpty with
    | true => exact same
    | false =>
      have hne : bytesOf s ≠ [] := by
        intro h
        have := (toList_nil s).2 h
        rw [this] at hz; cases hz
      have hpos : 1 ≤ s.size := by
        have := List.length_pos_iff.2 hne
        rwa [bytesOf_length] at this
      have hw1 : wrap64 ((s.size : Int) - 1) = (s.size : Int) - 1 := wrap_id (by omega) (by omega)
      refine Ev.step (f := fun r => _) (fun r => by simp only [laws_FnHeldMost.j0, hw1]; rfl) ?_
      refine Ev.neg (by decide) ?_
      refine Ev.pos (by omega) ?_
      refine Ev.pos (by omega) ?_
      have hx : bytesOf (s.extract 0 ((s.size : Int) - 1).toNat) = (bytesOf s).dropLast := by
        rw [bytesOf_extract, List.dropLast_eq_take, bytesOf_length]
        simp
      have hxs : (s.extract 0 ((s.size : Int) - 1).toNat).size ≤ 100 := by
        rw [ByteArray.size_extract]; omega
      refine Ev.bind (iTextHeld _ (by omega)) ?_
      rw [hx]
      have hok : textOk (bytesOf s).dropLast = true := by
        simp only [textOk, Bool.and_eq_true, List.all_eq_true, decide_eq_true_eq] at ho ⊢
        refine ⟨fun x hx => ho.1 x (List.dropLast_subset _ hx), ?_⟩
        rw [List.length_dropLast]; omega
      have e1 : textHeld (bytesOf s) = (held (bytesOf s) : Int) := by simp [textHeld, ho]
      have e2 : textHeld (bytesOf s).dropLast = (held (bytesOf s).dropLast : Int) := by simp [textHeld, hok]
      rw [e1, e2]
      have h5 := held_le5 (bytesOf s)
      have h5' := held_le5 (bytesOf s).dropLast
      rw [wrap_id (n := (held (bytesOf s).dropLast : Int) + 1) (by omega) (by omega), wrap_id (n := (held (bytesOf s) : Int) - 1) (by omega) (by omega)]
      refine Ev.ite (fun h1 => ?_) (fun h1 => ?_)
      · have : decide ((held (bytesOf s) : Int) ≤ (held (bytesOf s).dropLast : Int) + 1) = true := decide_eq_true (by omega)
        rw [this]; exact Ev.now _
      · have h2 := held_less (bytesOf s) (by omega)
        refine Ev.pos (by omega) ?_
        have : decide ((held (bytesOf s) : Int) ≤ (held (bytesOf s).dropLast : Int) + 1) = true := decide_eq_true (by omega)
        rw [this]; exact Ev.now _
end Go.Proofs.Ytkbpomalikbphaa.Pure
