/- Plain facts on texts as lists of numbers: names of ends, what is held, pieces. No program and no memory in it. -/
import Derived.Test.YtdphdheodloofaaDoorV
namespace Go.Proofs.YtdphdheodloofaaDoor.Plain
open Go.Proofs.YtdphdheodloofaaDoorW.PrintWords
set_option linter.unusedVariables false
set_option linter.unusedSimpArgs false

/-! ### Bytes -/
/-- A byte that a text may hold. -/
def okb (c : Int) : Bool := decide ((97 ≤ c ∧ c ≤ 122) ∨ (48 ≤ c ∧ c ≤ 57) ∨ c = 64 ∨ c = 58 ∨ c = 59)
def textOk (l : List Int) : Bool := l.all okb && decide (l.length ≤ 40)

/-! ### Ends -/
def inE (a p : Int) : Bool := decide (1 ≤ a ∧ a ≤ 3 ∧ 1 ≤ p ∧ p ≤ 9)
def outE (a p : Int) : Bool := decide (4 ≤ a ∧ a ≤ 6 ∧ 1 ≤ p ∧ p ≤ 9)
def doorE (a p : Int) : Bool := decide (a = 9 ∧ 10 ≤ p ∧ p ≤ 17)
def anyE (a p : Int) : Bool := inE a p || outE a p || doorE a p
/-- A number from 0 to 99 in decimals. -/
def dec (n : Int) : List Int := if n < 10 then [48 + n] else [48 + n / 10, 48 + n % 10]
def endText (a p : Int) : List Int := if anyE a p then dec a ++ 58 :: dec p else []
def endRead (l : List Int) : Option (Int × Int) :=
  match l with
  | [x, c, y] => if c = 58 ∧ 49 ≤ x ∧ x ≤ 54 ∧ 49 ≤ y ∧ y ≤ 57 then some (x - 48, y - 48) else none
  | [x, c, y, z] => if x = 57 ∧ c = 58 ∧ y = 49 ∧ 48 ≤ z ∧ z ≤ 55 then some (9, z - 38) else none
  | _ => none

theorem anyE_iff (a p : Int) : anyE a p = true ↔ (1 ≤ a ∧ a ≤ 6 ∧ 1 ≤ p ∧ p ≤ 9) ∨ (a = 9 ∧ 10 ≤ p ∧ p ≤ 17) := by
  simp only [anyE, inE, outE, doorE, Bool.or_eq_true, decide_eq_true_eq]; omega
theorem endText_host (a p : Int) (h : 1 ≤ a ∧ a ≤ 6 ∧ 1 ≤ p ∧ p ≤ 9) : endText a p = [48 + a, 58, 48 + p] := by
  have : anyE a p = true := (anyE_iff a p).2 (.inl h)
  simp only [endText, this, if_true, dec]
  rw [if_pos (by omega), if_pos (by omega)]; rfl
theorem endText_door (p : Int) (h : 10 ≤ p ∧ p ≤ 17) : endText 9 p = [57, 58, 49, 38 + p] := by
  have : anyE 9 p = true := (anyE_iff 9 p).2 (.inr ⟨rfl, h.1, h.2⟩)
  simp only [endText, this, if_true, dec]
  rw [if_pos (by omega), if_neg (by omega)]
  have h1 : 48 + p / 10 = 49 := by omega
  have h2 : 48 + p % 10 = 38 + p := by omega
  simp [h1, h2]
theorem endText_none (a p : Int) (h : anyE a p = false) : endText a p = [] := by simp [endText, h]
theorem endText_nil (a p : Int) : endText a p = [] ↔ anyE a p = false := by
  constructor
  · intro h
    cases h1 : anyE a p
    · rfl
    · rcases (anyE_iff a p).1 h1 with h2 | ⟨rfl, h2⟩
      · rw [endText_host a p h2] at h; cases h
      · rw [endText_door p h2] at h; cases h
  · exact endText_none a p
/-- What endRead reads is any end, and the text is its own; and every end is read. -/
theorem endRead_iff (l : List Int) (a p : Int) : endRead l = some (a, p) ↔ anyE a p = true ∧ endText a p = l := by
  constructor
  · intro h
    unfold endRead at h
    split at h
    · rename_i x c y
      split at h
      · rename_i hc
        simp only [Option.some.injEq, Prod.mk.injEq] at h
        obtain ⟨rfl, rfl⟩ := h
        have h3 : 1 ≤ x - 48 ∧ x - 48 ≤ 6 ∧ 1 ≤ y - 48 ∧ y - 48 ≤ 9 := by omega
        refine ⟨(anyE_iff _ _).2 (.inl h3), ?_⟩
        rw [endText_host _ _ h3]
        have h4 : 48 + (x - 48) = x := by omega
        have h5 : 48 + (y - 48) = y := by omega
        rw [h4, h5, hc.1]
      · cases h
    · rename_i x c y z
      split at h
      · rename_i hc
        simp only [Option.some.injEq, Prod.mk.injEq] at h
        obtain ⟨rfl, rfl⟩ := h
        have h3 : 10 ≤ z - 38 ∧ z - 38 ≤ 17 := by omega
        refine ⟨(anyE_iff _ _).2 (.inr ⟨rfl, h3⟩), ?_⟩
        rw [endText_door _ h3]
        have h4 : 38 + (z - 38) = z := by omega
        rw [h4, hc.1, hc.2.1, hc.2.2.1]
      · cases h
    · cases h
  · rintro ⟨h1, rfl⟩
    rcases (anyE_iff a p).1 h1 with h2 | ⟨rfl, h2⟩
    · rw [endText_host a p h2]
      simp only [endRead]
      rw [if_pos ⟨trivial, by omega, by omega, by omega, by omega⟩]
      have h4 : 48 + a - 48 = a := by omega
      have h5 : 48 + p - 48 = p := by omega
      rw [h4, h5]
    · rw [endText_door p h2]
      simp only [endRead]
      rw [if_pos ⟨trivial, trivial, trivial, by omega, by omega⟩]
      have h5 : 38 + p - 38 = p := by omega
      rw [h5]
theorem endRead_endText (a p : Int) (h : anyE a p = true) : endRead (endText a p) = some (a, p) := (endRead_iff _ a p).2 ⟨h, rfl⟩
theorem endText_inj {a p b q : Int} (h1 : anyE a p = true) (h2 : anyE b q = true) (h : endText a p = endText b q) : a = b ∧ p = q := by
  have e1 := endRead_endText a p h1
  rw [h, endRead_endText b q h2] at e1
  simp only [Option.some.injEq, Prod.mk.injEq] at e1
  exact ⟨e1.1.symm, e1.2.symm⟩

/-! ### What is held -/
/-- The beginning of a name. -/
def begins (l : List Int) : Bool :=
  match l with
  | [a] => decide (a = 64)
  | [a, b] => decide (a = 64 ∧ 49 ≤ b ∧ b ≤ 57)
  | [a, b, c] => decide (a = 64 ∧ 49 ≤ b ∧ b ≤ 57 ∧ c = 58)
  | [a, b, c, d] => decide (a = 64 ∧ 49 ≤ b ∧ b ≤ 57 ∧ c = 58 ∧ 49 ≤ d ∧ d ≤ 57)
  | [a, b, c, d, e] => decide (a = 64 ∧ 49 ≤ b ∧ b ≤ 57 ∧ c = 58 ∧ 49 ≤ d ∧ d ≤ 57 ∧ 48 ≤ e ∧ e ≤ 57)
  | _ => false
/-- The first of n, n - 1, .., 1 whose end of the text begins a name; else 0. -/
def heldFrom (l : List Int) : Nat → Nat
  | 0 => 0
  | n + 1 => if begins (l.drop (l.length - (n + 1))) = true then n + 1 else heldFrom l n
def held (l : List Int) : Nat := heldFrom l (min 5 l.length)

theorem begins_len {l : List Int} (h : begins l = true) : 1 ≤ l.length ∧ l.length ≤ 5 := by
  unfold begins at h
  split at h <;> first | (simp; done) | (cases h)
theorem heldFrom_le (l : List Int) : ∀ n, heldFrom l n ≤ n
  | 0 => Nat.le_refl _
  | n + 1 => by
    unfold heldFrom
    split
    · exact Nat.le_refl _
    · exact Nat.le_succ_of_le (heldFrom_le l n)
theorem held_le5 (l : List Int) : held l ≤ 5 := Nat.le_trans (heldFrom_le l _) (by omega)
theorem held_le (l : List Int) : held l ≤ l.length := Nat.le_trans (heldFrom_le l _) (by omega)
theorem heldFrom_begins (l : List Int) : ∀ n, 0 < heldFrom l n → begins (l.drop (l.length - heldFrom l n)) = true
  | 0, h => absurd h (Nat.lt_irrefl 0)
  | n + 1, h => by
    unfold heldFrom at h ⊢
    split
    · rename_i hb; exact hb
    · rename_i hb
      rw [if_neg hb] at h
      exact heldFrom_begins l n h
theorem held_begins (l : List Int) (h : 0 < held l) : begins (l.drop (l.length - held l)) = true := heldFrom_begins l _ h
theorem heldFrom_ge (l : List Int) (m : Nat) (hm : begins (l.drop (l.length - m)) = true) (h1 : 1 ≤ m) : ∀ n, m ≤ n → m ≤ heldFrom l n
  | 0, h => by omega
  | n + 1, h => by
    unfold heldFrom
    split
    · exact h
    · rename_i hb
      by_cases e : m = n + 1
      · rw [e] at hm; exact absurd hm hb
      · exact heldFrom_ge l m hm h1 n (by omega)
/-- Whatever end begins a name is held. -/
theorem held_ge (l : List Int) (m : Nat) (hm : begins (l.drop (l.length - m)) = true) (h1 : 1 ≤ m) (h2 : m ≤ l.length) : m ≤ held l := by
  have h3 := begins_len hm
  rw [List.length_drop] at h3
  exact heldFrom_ge l m hm h1 _ (by omega)
/-- A beginning of a beginning is one. -/
theorem begins_take {l : List Int} (h : begins l = true) (k : Nat) (h1 : 1 ≤ k) : begins (l.take k) = true := by
  unfold begins at h
  split at h
  · rename_i a
    match k, h1 with
    | k + 1, _ => simpa [begins] using h
  · rename_i a b
    simp only [decide_eq_true_eq] at h
    match k, h1 with
    | 1, _ => simp [begins]; omega
    | k + 2, _ => simp [begins]; omega
  · rename_i a b c
    simp only [decide_eq_true_eq] at h
    match k, h1 with
    | 1, _ => simp [begins]; omega
    | 2, _ => simp [begins]; omega
    | k + 3, _ => simp [begins]; omega
  · rename_i a b c d
    simp only [decide_eq_true_eq] at h
    match k, h1 with
    | 1, _ => simp [begins]; omega
    | 2, _ => simp [begins]; omega
    | 3, _ => simp [begins]; omega
    | k + 4, _ => simp [begins]; omega
  · rename_i a b c d e
    simp only [decide_eq_true_eq] at h
    match k, h1 with
    | 1, _ => simp [begins]; omega
    | 2, _ => simp [begins]; omega
    | 3, _ => simp [begins]; omega
    | 4, _ => simp [begins]; omega
    | k + 5, _ => simp [begins]; omega
  · cases h
/-- What begins a name has an @ in front, and no other one, and no end of a name. -/
theorem begins_at {l : List Int} (h : begins l = true) (i : Nat) (hi : i < l.length) : (l.getD i 0 = 64 ↔ i = 0) ∧ l.getD i 0 ≠ 59 := by
  unfold begins at h
  split at h
  · rename_i a
    simp only [decide_eq_true_eq] at h
    match i, hi with
    | 0, _ => simp; omega
  · rename_i a b
    simp only [decide_eq_true_eq] at h
    match i, hi with
    | 0, _ => simp; omega
    | 1, _ => simp; omega
  · rename_i a b c
    simp only [decide_eq_true_eq] at h
    match i, hi with
    | 0, _ => simp; omega
    | 1, _ => simp; omega
    | 2, _ => simp; omega
  · rename_i a b c d
    simp only [decide_eq_true_eq] at h
    match i, hi with
    | 0, _ => simp; omega
    | 1, _ => simp; omega
    | 2, _ => simp; omega
    | 3, _ => simp; omega
  · rename_i a b c d e
    simp only [decide_eq_true_eq] at h
    match i, hi with
    | 0, _ => simp; omega
    | 1, _ => simp; omega
    | 2, _ => simp; omega
    | 3, _ => simp; omega
    | 4, _ => simp; omega
  · cases h

/-! ### Pieces -/
/-- A piece: its size, whether it names an end, and the end. -/
structure Pc where
  size : Nat
  named : Bool
  addr : Int
  port : Int
deriving DecidableEq
/-- The name of an end at the front of a text: the end, and how long its name is. -/
def nameAt (l : List Int) : Option (Int × Int × Nat) :=
  match l with
  | a :: x :: c :: y :: d :: t =>
    if a = 64 ∧ c = 58 ∧ 49 ≤ x ∧ x ≤ 54 ∧ 49 ≤ y ∧ y ≤ 57 ∧ d = 59 then some (x - 48, y - 48, 5)
    else match t with
      | f :: _ => if a = 64 ∧ x = 57 ∧ c = 58 ∧ y = 49 ∧ 48 ≤ d ∧ d ≤ 55 ∧ f = 59 then some (9, d - 38, 6) else none
      | [] => none
  | _ => none
def pieceOf (l : List Int) : Pc :=
  match nameAt l with
  | some (a, p, n) => ⟨n, true, a, p⟩
  | none => ⟨1, false, 0, 0⟩
/-- Pieces from the front on, with rounds enough. -/
def toksN : Nat → List Int → List Pc
  | 0, _ => []
  | k + 1, l => if l = [] then [] else pieceOf l :: toksN k (l.drop (pieceOf l).size)
def toks (l : List Int) : List Pc := toksN l.length l
def pieces (l : List Int) : List Pc := toks (l.take (l.length - held l))

/-- The name of an end. -/
def name (a p : Int) : List Int := 64 :: (endText a p ++ [59])
theorem name_host (a p : Int) (h : 1 ≤ a ∧ a ≤ 6 ∧ 1 ≤ p ∧ p ≤ 9) : name a p = [64, 48 + a, 58, 48 + p, 59] := by
  simp [name, endText_host a p h]
theorem name_door (p : Int) (h : 10 ≤ p ∧ p ≤ 17) : name 9 p = [64, 57, 58, 49, 38 + p, 59] := by
  simp [name, endText_door p h]
theorem nameAt_iff (l : List Int) (a p : Int) (n : Nat) : nameAt l = some (a, p, n) ↔ anyE a p = true ∧ n = (name a p).length ∧ ∃ r, l = name a p ++ r := by
  constructor
  · intro h
    unfold nameAt at h
    split at h
    · rename_i a' x c y d t
      split at h
      · rename_i hc
        simp only [Option.some.injEq, Prod.mk.injEq] at h
        obtain ⟨rfl, rfl, rfl⟩ := h
        have h3 : 1 ≤ x - 48 ∧ x - 48 ≤ 6 ∧ 1 ≤ y - 48 ∧ y - 48 ≤ 9 := by omega
        refine ⟨(anyE_iff _ _).2 (.inl h3), by rw [name_host _ _ h3]; rfl, t, ?_⟩
        rw [name_host _ _ h3]
        have h4 : 48 + (x - 48) = x := by omega
        have h5 : 48 + (y - 48) = y := by omega
        obtain ⟨e1, e2, _, _, _, _, e3⟩ := hc
        rw [h4, h5, e1, e2, e3]; rfl
      · split at h
        · rename_i f t
          split at h
          · rename_i hc
            simp only [Option.some.injEq, Prod.mk.injEq] at h
            obtain ⟨rfl, rfl, rfl⟩ := h
            have h3 : 10 ≤ d - 38 ∧ d - 38 ≤ 17 := by omega
            refine ⟨(anyE_iff _ _).2 (.inr ⟨rfl, h3⟩), by rw [name_door _ h3]; rfl, t, ?_⟩
            rw [name_door _ h3]
            have h4 : 38 + (d - 38) = d := by omega
            obtain ⟨e1, e2, e3, e4, _, _, e5⟩ := hc
            rw [h4, e1, e2, e3, e4, e5]; rfl
          · cases h
        · cases h
    · cases h
  · rintro ⟨h1, rfl, r, rfl⟩
    rcases (anyE_iff a p).1 h1 with h2 | ⟨rfl, h2⟩
    · rw [name_host a p h2]
      simp only [List.cons_append, List.nil_append, nameAt]
      rw [if_pos ⟨trivial, trivial, by omega, by omega, by omega, by omega, trivial⟩]
      have h4 : 48 + a - 48 = a := by omega
      have h5 : 48 + p - 48 = p := by omega
      simp [h4, h5]
    · rw [name_door p h2]
      simp only [List.cons_append, List.nil_append, nameAt]
      rw [if_neg (by simp), if_pos ⟨trivial, trivial, trivial, trivial, by omega, by omega, trivial⟩]
      have h5 : 38 + p - 38 = p := by omega
      simp [h5]

theorem name_len (a p : Int) (h : anyE a p = true) : (name a p).length = 5 ∨ (name a p).length = 6 := by
  rcases (anyE_iff a p).1 h with h2 | ⟨rfl, h2⟩
  · left; rw [name_host a p h2]; rfl
  · right; rw [name_door p h2]; rfl
/-- A name has an @ in front and no other one, and what is less of it begins a name. -/
theorem name_at (a p : Int) (h : anyE a p = true) (i : Nat) (hi : i < (name a p).length) : (name a p).getD i 0 = 64 ↔ i = 0 := by
  rcases (anyE_iff a p).1 h with h2 | ⟨rfl, h2⟩
  · rw [name_host a p h2] at hi ⊢
    match i, hi with
    | 0, _ => simp
    | 1, _ => simp; omega
    | 2, _ => simp
    | 3, _ => simp; omega
    | 4, _ => simp
  · rw [name_door p h2] at hi ⊢
    match i, hi with
    | 0, _ => simp
    | 1, _ => simp
    | 2, _ => simp
    | 3, _ => simp
    | 4, _ => simp; omega
    | 5, _ => simp
theorem name_begins (a p : Int) (h : anyE a p = true) (k : Nat) (h1 : 1 ≤ k) (h2 : k < (name a p).length) : begins ((name a p).take k) = true := by
  rcases (anyE_iff a p).1 h with h3 | ⟨rfl, h3⟩
  · rw [name_host a p h3] at h2 ⊢
    match k, h1, h2 with
    | 1, _, _ => simp [begins]
    | 2, _, _ => simp [begins]; omega
    | 3, _, _ => simp [begins]; omega
    | 4, _, _ => simp [begins]; omega
  · rw [name_door p h3] at h2 ⊢
    match k, h1, h2 with
    | 1, _, _ => simp [begins]
    | 2, _, _ => simp [begins]
    | 3, _, _ => simp [begins]
    | 4, _, _ => simp [begins]
    | 5, _, _ => simp [begins]; omega
/-- Only one end's name stands at the front. -/
theorem name_uniq {a p b q : Int} {r r' : List Int} (h1 : anyE a p = true) (h2 : anyE b q = true) (h : name a p ++ r = name b q ++ r') : a = b ∧ p = q ∧ r = r' := by
  have e1 := (nameAt_iff (name a p ++ r) a p _).2 ⟨h1, rfl, r, rfl⟩
  have e2 := (nameAt_iff (name a p ++ r) b q _).2 ⟨h2, rfl, r', h⟩
  rw [e1] at e2
  simp only [Option.some.injEq, Prod.mk.injEq] at e2
  obtain ⟨rfl, rfl, _⟩ := e2
  exact ⟨rfl, rfl, List.append_cancel_left h⟩
theorem pieceOf_size (l : List Int) (h : l ≠ []) : 1 ≤ (pieceOf l).size ∧ (pieceOf l).size ≤ l.length := by
  unfold pieceOf
  split
  · rename_i a p n hn
    obtain ⟨h1, rfl, r, rfl⟩ := (nameAt_iff l a p n).1 hn
    have := name_len a p h1
    simp only [List.length_append]
    omega
  · have : 0 < l.length := List.length_pos_iff.2 h
    simp only
    omega
theorem toksN_more : ∀ (n : Nat) (l : List Int), l.length ≤ n → toksN n l = toks l
  | 0, l, h => by
    have : l = [] := List.eq_nil_of_length_eq_zero (by omega)
    subst this; rfl
  | n + 1, l, h => by
    unfold toks
    by_cases hl : l = []
    · subst hl; simp [toksN]
    · have hs := pieceOf_size l hl
      have hp : 0 < l.length := List.length_pos_iff.2 hl
      obtain ⟨m, hm⟩ : ∃ m, l.length = m + 1 := ⟨l.length - 1, by omega⟩
      rw [hm]
      simp only [toksN, if_neg hl]
      congr 1
      rw [toksN_more n _ (by rw [List.length_drop]; omega)]
      by_cases e : m = n
      · subst e; exact (toksN_more m _ (by rw [List.length_drop]; omega)).symm
      · have : (l.drop (pieceOf l).size).length ≤ m := by rw [List.length_drop]; omega
        exact (toksN_more m _ this).symm
termination_by n => n
theorem toks_nil : toks [] = [] := rfl
theorem toks_cons (l : List Int) (h : l ≠ []) : toks l = pieceOf l :: toks (l.drop (pieceOf l).size) := by
  have hp : 0 < l.length := List.length_pos_iff.2 h
  have hs := pieceOf_size l h
  obtain ⟨m, hm⟩ : ∃ m, l.length = m + 1 := ⟨l.length - 1, by omega⟩
  have e : toks l = toksN (m + 1) l := by unfold toks; rw [hm]
  rw [e]
  simp only [toksN, if_neg h]
  congr 1
  exact toksN_more m _ (by rw [List.length_drop]; omega)
/-- No name that stands ahead of the cut goes over it. -/
def Cut (u v : List Int) : Prop := ∀ (i : Nat) (a p : Int), i < u.length → anyE a p = true → (∃ r, (u ++ v).drop i = name a p ++ r) → i + (name a p).length ≤ u.length
theorem cut_drop {u v : List Int} (h : Cut u v) (k : Nat) (hk : k ≤ u.length) : Cut (u.drop k) v := by
  intro i a p hi ha hr
  rw [List.length_drop] at hi ⊢
  have := h (k + i) a p (by omega) ha (by
    obtain ⟨r, hr⟩ := hr
    refine ⟨r, ?_⟩
    rw [← hr, ← List.drop_drop, List.drop_append_of_le_length hk])
  omega
theorem pieceOf_append {u v : List Int} (h : Cut u v) (hu : u ≠ []) : pieceOf (u ++ v) = pieceOf u := by
  have hp : 0 < u.length := List.length_pos_iff.2 hu
  have e : nameAt (u ++ v) = nameAt u := by
    cases h1 : nameAt (u ++ v) with
    | none =>
      cases h2 : nameAt u with
      | none => rfl
      | some x =>
        obtain ⟨a, p, n⟩ := x
        obtain ⟨ha, rfl, r, hr⟩ := (nameAt_iff u a p n).1 h2
        have := (nameAt_iff (u ++ v) a p _).2 ⟨ha, rfl, r ++ v, by rw [hr, List.append_assoc]⟩
        rw [h1] at this; cases this
    | some x =>
      obtain ⟨a, p, n⟩ := x
      obtain ⟨ha, rfl, r, hr⟩ := (nameAt_iff (u ++ v) a p n).1 h1
      have hl := h 0 a p hp ha ⟨r, by simpa using hr⟩
      refine ((nameAt_iff u a p _).2 ⟨ha, rfl, u.drop (name a p).length, ?_⟩).symm
      have e2 : u.take (name a p).length = name a p := by
        have := congrArg (List.take (name a p).length) hr
        rw [List.take_append_of_le_length (by omega), List.take_left] at this
        exact this
      conv => lhs; rw [← List.take_append_drop (name a p).length u]
      rw [e2]
  unfold pieceOf
  rw [e]
theorem toks_append : ∀ (n : Nat) (u v : List Int), u.length ≤ n → Cut u v → toks (u ++ v) = toks u ++ toks v
  | 0, u, v, h, _ => by
    have : u = [] := List.eq_nil_of_length_eq_zero (by omega)
    subst this; rfl
  | n + 1, u, v, h, hc => by
    by_cases hu : u = []
    · subst hu; rfl
    · have hs := pieceOf_size u hu
      have hn : u ++ v ≠ [] := by simp [hu]
      rw [toks_cons _ hn, toks_cons u hu, pieceOf_append hc hu, List.drop_append_of_le_length hs.2, toks_append n _ v (by rw [List.length_drop]; omega) (cut_drop hc _ hs.2)]
      rfl
/-- Where nothing is held, or what is behind begins with an @, no name goes over the cut. -/
theorem cut_held {u : List Int} (h : held u = 0) (v : List Int) : Cut u v := by
  intro i a p hi ha hr
  obtain ⟨r, hr⟩ := hr
  rcases Nat.lt_or_ge u.length (i + (name a p).length) with hlt | hge
  · exfalso
    have e : u.drop i = (name a p).take (u.length - i) := by
      have := congrArg (List.take (u.length - i)) hr
      rw [List.drop_append_of_le_length (by omega), List.take_append_of_le_length (by rw [List.length_drop]; omega), List.take_append_of_le_length (by omega)] at this
      rw [← this, List.take_of_length_le (by rw [List.length_drop]; omega)]
    have hb := name_begins a p ha (u.length - i) (by omega) (by omega)
    rw [← e] at hb
    have := held_ge u (u.length - i) (by rw [show u.length - (u.length - i) = i from by omega]; exact hb) (by omega) (by omega)
    omega
  · exact hge
theorem cut_at (u v : List Int) (h : ∀ x, v.head? = some x → x = 64) : Cut u v := by
  intro i a p hi ha hr
  obtain ⟨r, hr⟩ := hr
  rcases Nat.lt_or_ge u.length (i + (name a p).length) with hlt | hge
  · exfalso
    have hv : v ≠ [] := by
      rintro rfl
      have := congrArg List.length hr
      simp at this
      omega
    obtain ⟨x, v', rfl⟩ := List.exists_cons_of_ne_nil hv
    have hx : x = 64 := h x rfl
    have e : ((u ++ x :: v').drop i).getD (u.length - i) 0 = x := by
      rw [List.getD_eq_getElem?_getD, List.getElem?_drop, show i + (u.length - i) = u.length from by omega, List.getElem?_append_right (by omega)]
      simp
    rw [hr, List.getD_eq_getElem?_getD, List.getElem?_append_left (by omega), ← List.getD_eq_getElem?_getD, hx] at e
    have := (name_at a p ha (u.length - i) (by omega)).1 e
    omega
  · exact hge

end Go.Proofs.YtdphdheodloofaaDoor.Plain
