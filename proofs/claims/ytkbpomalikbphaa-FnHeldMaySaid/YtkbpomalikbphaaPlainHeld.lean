/- On what is held of a text, as plain Lean: what stands behind it, and what is cut of it. -/
import Derived.Test.YtkbpomalikbphaaPlain
namespace Go.Proofs.Ytkbpomalikbphaa.Plain
set_option linter.unusedVariables false
set_option linter.unusedSimpArgs false
theorem getD_drop_ (l : List Int) (k i : Nat) : (l.drop k).getD i 0 = l.getD (k + i) 0 := by
  simp [List.getD_eq_getElem?_getD, List.getElem?_drop]
theorem begins_bytes {l : List Int} (h : begins l = true) : ∀ x ∈ l, x = 64 ∨ x = 58 ∨ (48 ≤ x ∧ x ≤ 57) := by
  unfold begins at h
  split at h <;> first | (cases h; done) | (simp only [decide_eq_true_eq] at h; intro x hx; simp only [List.mem_cons, List.not_mem_nil, or_false] at hx; omega)
theorem held_x (l : List Int) : held (l ++ [120]) = 0 := by
  apply Nat.eq_zero_of_not_pos
  intro h
  have hl := held_le (l ++ [120])
  have hb := begins_bytes (held_begins _ h) 120 (by
    rw [List.drop_append_of_le_length (by simp only [List.length_append, List.length_singleton] at hl ⊢; omega)]
    simp)
  omega
theorem held_at (l : List Int) : held (l ++ [64]) = 1 := by
  have h1 : 1 ≤ held (l ++ [64]) := held_ge _ 1 (by simp [begins]) (Nat.le_refl _) (by simp)
  have hl := held_le (l ++ [64])
  have hb := held_begins (l ++ [64]) h1
  generalize held (l ++ [64]) = n at h1 hl hb
  have hlen : (l ++ [64]).length = l.length + 1 := by simp
  rw [hlen] at hl hb
  have hi := (begins_at hb (n - 1) (by rw [List.length_drop, hlen]; omega)).1
  rw [getD_drop_] at hi
  have e : l.length + 1 - n + (n - 1) = l.length := by omega
  rw [e] at hi
  have : (l ++ [64]).getD l.length 0 = 64 := by simp [List.getD_eq_getElem?_getD]
  have := hi.1 this
  omega
theorem held_byte (l : List Int) (i : Nat) (hi : i < held l) : (l.getD (l.length - held l + i) 0 = 64) ↔ i = 0 := by
  have hl := held_le l
  have hb := held_begins l (by omega)
  have := (begins_at hb i (by rw [List.length_drop]; omega)).1
  rwa [getD_drop_] at this
/-- One byte less: one less is held. -/
theorem held_less (l : List Int) (h : 2 ≤ held l) : held l.dropLast = held l - 1 := by
  have hl := held_le l
  have hb := held_begins l (by omega)
  have hd : l.dropLast.length = l.length - 1 := List.length_dropLast
  have e1 : (l.drop (l.length - held l)).take (held l - 1) = l.dropLast.drop (l.dropLast.length - (held l - 1)) := by
    rw [hd, List.dropLast_eq_take, List.drop_take]
    have e2 : l.length - 1 - (held l - 1) = l.length - held l := by omega
    rw [e2]
    congr 1; omega
  have h1 : held l - 1 ≤ held l.dropLast := held_ge _ _ (by rw [← e1]; exact begins_take hb _ (by omega)) (by omega) (by omega)
  refine Nat.le_antisymm ?_ h1
  refine Nat.le_of_not_lt fun hc => ?_
  have hl2 := held_le l.dropLast
  have hb2 := held_byte l.dropLast (held l.dropLast - (held l - 1)) (by omega)
  have e3 : l.dropLast.length - held l.dropLast + (held l.dropLast - (held l - 1)) = l.length - held l := by omega
  rw [e3] at hb2
  have h64 := (held_byte l 0 (by omega)).2 rfl
  have e4 : l.dropLast.getD (l.length - held l) 0 = l.getD (l.length - held l) 0 := by
    rw [List.dropLast_eq_take, List.getD_eq_getElem?_getD, List.getD_eq_getElem?_getD, List.getElem?_take, if_pos (by omega)]
  rw [e4] at hb2
  have := hb2.1 h64
  omega
end Go.Proofs.Ytkbpomalikbphaa.Plain
