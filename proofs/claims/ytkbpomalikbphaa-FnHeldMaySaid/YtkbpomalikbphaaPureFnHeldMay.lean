/- The law that what is held may become a name, as plain Lean. -/
import Derived.Test.YtkbpomalikbphaaAx6
import Derived.Test.YtkbpomalikbphaaEvDrawHeld
import Derived.Test.YtkbpomalikbphaaPlainHeld
namespace Go.Proofs.Ytkbpomalikbphaa.Pure
open Go.RowKit Go.Proofs.YtkbpomalikbphaaW.PrintWords Go.Proofs.Ytkbpomalikbphaa.Plain Go.Proofs.Ytkbpomalikbphaa.A
theorem heldMay_loop (s : ByteArray) (hs : s.size ≤ 100) (ho : textOk (bytesOf s) = true) (h : ByteArray) (hh : bytesOf h = (bytesOf s).drop ((bytesOf s).length - held (bytesOf s))) :
    ∀ (d i : Nat), i + d = held (bytesOf s) → Ev (fun k => laws_FnHeldMay.l0 k s (held (bytesOf s) : Int) h (i : Int)) true := by
  have hl := held_le (bytesOf s)
  have h5 := held_le5 (bytesOf s)
  have hsz : h.size = held (bytesOf s) := by
    have := congrArg List.length hh
    rw [bytesOf_length, List.length_drop] at this; omega
  intro d
  induction d with
  | succ d ih =>
    intro i hi
    refine Ev.step (f := fun k => _) (fun k => by simp only [laws_FnHeldMay.l0]; rfl) ?_
    refine Ev.pos (by omega) ?_
    refine Ev.pos (by omega) ?_
    refine Ev.pos (by omega) ?_
    have hb := held_byte (bytesOf s) i (by omega)
    have e1 : bt h (i : Int) = (bytesOf s).getD ((bytesOf s).length - held (bytesOf s) + i) 0 := by
      rw [bt_rd, hh]
      show ((bytesOf s).drop _).getD ((i : Int)).toNat 0 = _
      rw [getD_drop_]; rfl
    refine Ev.neg ?_ ?_
    · rw [e1]
      by_cases hi0 : i = 0
      · rw [hb.2 hi0]; subst hi0; decide
      · have : (bytesOf s).getD ((bytesOf s).length - held (bytesOf s) + i) 0 ≠ 64 := fun hc => hi0 (hb.1 hc)
        have e2 : ((i : Int) == 0) = false := by rw [beq_eq_false_iff_ne]; omega
        rw [e2, beq_eq_false_iff_ne.2 this]; decide
    · rw [wrap_id (by omega) (by omega)]
      exact ih (i + 1) (by omega)
  | zero =>
    intro i hi
    refine Ev.step (f := fun k => _) (fun k => by simp only [laws_FnHeldMay.l0]; rfl) ?_
    refine Ev.neg (by omega) ?_
    refine Ev.pos (by omega) ?_
    refine Ev.ite (fun _ => Ev.now _) (fun h40 => ?_)
    have hle : s.size ≤ 39 := by
      have := ho
      simp only [textOk, Bool.and_eq_true, decide_eq_true_eq, bytesOf_length] at this
      omega
    have ok : ∀ c : Int, okb c = true → textOk (bytesOf s ++ [c]) = true := by
      intro c hc
      simp only [textOk, Bool.and_eq_true, List.all_eq_true, decide_eq_true_eq] at ho ⊢
      refine ⟨fun x hx => ?_, by rw [List.length_append, bytesOf_length]; simp; omega⟩
      rw [List.mem_append, List.mem_singleton] at hx
      rcases hx with hx | rfl
      · exact ho.1 x hx
      · exact hc
    have sz : ∀ t : ByteArray, t.size = 1 → (s ++ t).size ≤ 140737488355328 := fun t ht => by rw [ByteArray.size_append]; omega
    refine Ev.pos (show s.size + 1 ≤ 9223372036854775807 from by omega) ?_
    refine Ev.bind (iTextHeld (s ++ (⟨#[120]⟩ : ByteArray)) (sz _ rfl)) ?_
    have e1 : textHeld (bytesOf (s ++ (⟨#[120]⟩ : ByteArray))) = 0 := by
      have : bytesOf (⟨#[120]⟩ : ByteArray) = [120] := rfl
      rw [bytesOf_append, this, textHeld, if_pos (ok 120 (by decide)), held_x]; rfl
    refine Ev.pos e1 ?_
    refine Ev.bind (iTextHeld (s ++ (⟨#[64]⟩ : ByteArray)) (sz _ rfl)) ?_
    have e2 : textHeld (bytesOf (s ++ (⟨#[64]⟩ : ByteArray))) = 1 := by
      have : bytesOf (⟨#[64]⟩ : ByteArray) = [64] := rfl
      rw [bytesOf_append, this, textHeld, if_pos (ok 64 (by decide)), held_at]; rfl
    rw [e2]; exact Ev.now _
theorem FnHeldMay : laws_FnHeldMay.Pure := by
  intro l hl hb hw
  apply Ev.rounds
  unfold laws_FnHeldMay.f
  refine Ev.ite (fun _ => Ev.now _) (fun hsmall => ?_)
  obtain ⟨s, e, hs⟩ := drawTextHeld_ev l (code_of hw)
  refine Ev.bind e ?_
  refine Ev.bind (iTextHeld s (by omega)) ?_
  refine Ev.bind (sTextHeld s (by omega)) ?_
  refine Ev.pos rfl ?_
  refine Ev.bind (sTextOk s (by omega)) ?_
  cases ho : textOk (bytesOf s) with
  | false =>
    refine Ev.step (f := fun r => (spec_TextHeld.f r s).bind fun t => some (textHeld (bytesOf s) == t)) (fun r => by simp only [laws_FnHeldMay.j0]; rfl) ?_
    refine Ev.bind (sTextHeld s (by omega)) ?_
    rw [BEq.rfl]; exact Ev.now _
  | true =>
    have e1 : textHeld (bytesOf s) = (held (bytesOf s) : Int) := by simp [textHeld, ho]
    have hl := held_le (bytesOf s)
    have hlen : (bytesOf s).length = s.size := bytesOf_length s
    have hw1 : wrap64 ((s.size : Int) - (held (bytesOf s) : Int)) = (s.size : Int) - (held (bytesOf s) : Int) := wrap_id (by omega) (by omega)
    refine Ev.step (f := fun r => _) (fun r => by simp only [laws_FnHeldMay.j0, e1, hw1]; rfl) ?_
    refine Ev.neg (by decide) ?_
    refine Ev.pos (by omega) ?_
    refine Ev.pos (by omega) ?_
    refine heldMay_loop s hs ho _ ?_ (held (bytesOf s)) 0 (by omega)
    rw [bytesOf_to_end, hlen]
    congr 1; omega
end Go.Proofs.Ytkbpomalikbphaa.Pure
