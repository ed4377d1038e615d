/- The law on PktText, as plain Lean: program and reference answer alike at every packet. -/
import Derived.Test.YtdphdheodloofaaDoorV
import Derived.Lib.Strings
import Derived.Lib.IndexBytes
import Derived.Lib.IndexMore
import Derived.IntWalk
import Derived.Laws.Bits64
import Derived.Test.YtdphdheodloofaaDoorAx3
import Derived.Test.YtdphdheodloofaaDoorAx4
import Derived.Test.YtdphdheodloofaaDoorAx7
import Derived.Test.YtdphdheodloofaaDoorAx12
import Derived.Test.YtdphdheodloofaaDoorAx13
import Derived.Test.YtdphdheodloofaaDoorAx18
import Derived.Test.YtdphdheodloofaaDoorAx19
import Derived.Test.YtdphdheodloofaaDoorAx28
namespace Go.Proofs.YtdphdheodloofaaDoor.Plain
open Go.Proofs.YtdphdheodloofaaDoorW.PrintWords Go.RowKit
set_option linter.unusedVariables false
set_option linter.unusedSimpArgs false
/-- A byte that a text may hold. -/
def okb (c : Int) : Bool := decide ((97 ≤ c ∧ c ≤ 122) ∨ (48 ≤ c ∧ c ≤ 57) ∨ c = 64 ∨ c = 58 ∨ c = 59)
def textOk (l : List Int) : Bool := l.all okb && decide (l.length ≤ 40)
def inE (a p : Int) : Bool := decide (1 ≤ a ∧ a ≤ 3 ∧ 1 ≤ p ∧ p ≤ 9)
def outE (a p : Int) : Bool := decide (4 ≤ a ∧ a ≤ 6 ∧ 1 ≤ p ∧ p ≤ 9)
def doorE (a p : Int) : Bool := decide (a = 9 ∧ 10 ≤ p ∧ p ≤ 17)
def anyE (a p : Int) : Bool := inE a p || outE a p || doorE a p
/-- A number from 0 to 99 in decimals. -/
def dec (n : Int) : List Int := if n < 10 then [48 + n] else [48 + n / 10, 48 + n % 10]
def endText (a p : Int) : List Int := if anyE a p then dec a ++ 58 :: dec p else []
theorem anyE_iff (a p : Int) : anyE a p = true ↔ (1 ≤ a ∧ a ≤ 6 ∧ 1 ≤ p ∧ p ≤ 9) ∨ (a = 9 ∧ 10 ≤ p ∧ p ≤ 17) := by
  simp only [anyE, inE, outE, doorE, Bool.or_eq_true, decide_eq_true_eq]; omega
theorem endText_host (a p : Int) (h : 1 ≤ a ∧ a ≤ 6 ∧ 1 ≤ p ∧ p ≤ 9) : endText a p = [48 + a, 58, 48 + p] := by
  have : anyE a p = true := (anyE_iff a p).2 (.inl h)
  simp only [endText, this, if_true, dec]
  rw [if_pos (by omega), if_pos (by omega)]; rfl
theorem endText_door (p : Int) (h : 10 ≤ p ∧ p ≤ 17) : endText 9 p = [57, 58, 49, 38 + p] := by
  have : anyE 9 p = true := (anyE_iff 9 p).2 (.inr ⟨rfl, h.1, h.2⟩)
  simp only [endText, this, if_true, dec]
  rw [if_pos (by omega), if_neg (by omega)]
  have h1 : 48 + p / 10 = 49 := by omega
  have h2 : 48 + p % 10 = 38 + p := by omega
  simp [h1, h2]
theorem endText_none (a p : Int) (h : anyE a p = false) : endText a p = [] := by simp [endText, h]
theorem bytesOf_size (s : ByteArray) : (bytesOf s).length = s.size := bytesOf_length s
theorem bt_rd (s : ByteArray) (i : Int) : bt s i = rd (bytesOf s) i := (rd_bytesOf s i).symm
theorem bytesOf_append (s t : ByteArray) : bytesOf (s ++ t) = bytesOf s ++ bytesOf t := by
  simp [bytesOf, ByteArray.data_append]
theorem bytesOf_inj {s t : ByteArray} (h : bytesOf s = bytesOf t) : s = t := by
  have h1 : s.data.toList = t.data.toList := by
    unfold bytesOf at h
    exact (List.map_inj_right (fun a b e => UInt8.toNat_inj.1 (by omega))).1 h
  have h2 : s.data = t.data := Array.toList_inj.1 h1
  cases s; cases t; simp_all
theorem bytesOf_toList {s t : ByteArray} : s.toList = t.toList ↔ bytesOf s = bytesOf t := by
  constructor
  · intro h
    have : s.data.toList = t.data.toList := by simpa [ByteArray.toList_eq] using h
    simp [bytesOf, this]
  · intro h; rw [bytesOf_inj h]
theorem Ev.ite {α : Type} {c : Prop} [Decidable c] {g f : Nat → Option α} {r : α} (h1 : c → Ev g r) (h2 : ¬ c → Ev f r) : Ev (fun k => if c then g k else f k) r := by
  by_cases h : c
  · simp only [if_pos h]; exact h1 h
  · simp only [if_neg h]; exact h2 h
theorem Ev.pos {α : Type} {c : Prop} [Decidable c] {g f : Nat → Option α} {r : α} (h : c) (h1 : Ev g r) : Ev (fun k => if c then g k else f k) r := by
  simp only [if_pos h]; exact h1
theorem Ev.neg {α : Type} {c : Prop} [Decidable c] {g f : Nat → Option α} {r : α} (h : ¬ c) (h1 : Ev f r) : Ev (fun k => if c then g k else f k) r := by
  simp only [if_neg h]; exact h1
/-- A function without rounds. -/
theorem Ev.call {α β : Type} {o : Option α} {a : α} {f : Nat → α → Option β} {r : β} (h : o = some a) (k : Ev (fun n => f n a) r) : Ev (fun n => o.bind (f n)) r := by
  subst h; exact k
theorem wrap_id {n : Int} (h1 : -9223372036854775808 ≤ n) (h2 : n ≤ 9223372036854775807) : wrap64 n = n := IntWalk.wrap64_in n ⟨h1, h2⟩
end Go.Proofs.YtdphdheodloofaaDoor.Plain
namespace Go.Proofs.YtdphdheodloofaaDoor.Pure
open Go.RowKit Go.Proofs.YtdphdheodloofaaDoorW.PrintWords Go.Proofs.YtdphdheodloofaaDoorW.PrintMore Go.Proofs.YtdphdheodloofaaDoor.Plain Go.Proofs.YtdphdheodloofaaDoor.A
set_option linter.unusedVariables false
set_option linter.unusedSimpArgs false
/-- A code: bytes. -/
def Code (b : List Int) : Prop := ∀ x ∈ b, 0 ≤ x ∧ x ≤ 255
theorem l6In_eq (a b c : Int) : spec_l6In.f a b c = some (decide (b ≤ a ∧ a ≤ c)) := by
  unfold spec_l6In.f
  by_cases h : a ≥ b
  · rw [if_pos h]; simp; omega
  · rw [if_neg h]; simp; omega
theorem within_eq (a b c : Int) : impl_within.f a b c = some (decide (b ≤ a ∧ a ≤ c)) := by
  unfold impl_within.f
  by_cases h : a ≥ b
  · rw [if_pos h]; simp; omega
  · rw [if_neg h]; simp; omega
theorem sDoor_eq (a p : Int) : spec_EndDoor.f a p = some (doorE a p) := by
  unfold spec_EndDoor.f doorE
  by_cases h : a = 9
  · rw [if_pos h, l6In_eq]; simp [h]
  · rw [if_neg h]; simp [h]
theorem iDoor_eq (a p : Int) : impl_EndDoor.f a p = some (doorE a p) := by
  unfold impl_EndDoor.f doorE
  by_cases h : a = 9
  · rw [if_pos h, within_eq]; simp [h]
  · rw [if_neg h]; simp [h]
theorem host_eq (p : Int) (a : Int) : spec_l1Host.f a p = some (decide (1 ≤ p ∧ p ≤ 9)) := by
  unfold spec_l1Host.f; rw [l6In_eq]; rfl
theorem sIn_eq (a p : Int) : spec_EndInside.f a p = some (inE a p) := by
  unfold spec_EndInside.f inE
  rw [l6In_eq, host_eq]
  by_cases h : 1 ≤ a ∧ a ≤ 3 <;> simp [h] <;> (try rw [eq_comm, decide_eq_false_iff_not]) <;> omega
theorem iIn_eq (a p : Int) : impl_EndInside.f a p = some (inE a p) := by
  unfold impl_EndInside.f inE
  rw [within_eq, within_eq]
  by_cases h : 1 ≤ a ∧ a ≤ 3 <;> simp [h] <;> (try rw [eq_comm, decide_eq_false_iff_not]) <;> omega
theorem sOut_eq (a p : Int) : spec_EndOutside.f a p = some (outE a p) := by
  unfold spec_EndOutside.f outE
  rw [l6In_eq, host_eq]
  by_cases h : 4 ≤ a ∧ a ≤ 6 <;> simp [h] <;> (try rw [eq_comm, decide_eq_false_iff_not]) <;> omega
theorem iOut_eq (a p : Int) : impl_EndOutside.f a p = some (outE a p) := by
  unfold impl_EndOutside.f outE
  rw [within_eq, within_eq]
  by_cases h : 4 ≤ a ∧ a ≤ 6 <;> simp [h] <;> (try rw [eq_comm, decide_eq_false_iff_not]) <;> omega
theorem l2Byte_eq (c : Int) : spec_l2Byte.f c = some (okb c) := by
  unfold spec_l2Byte.f okb
  repeat' split
  all_goals (congr 1; first | (symm; rw [decide_eq_true_eq]; omega) | (rw [Bool.eq_iff_iff, beq_iff_eq, decide_eq_true_eq]; omega))
theorem all_rd (s : ByteArray) (f : Int → Bool) : (bytesOf s).all f = true ↔ ∀ i : Nat, i < s.size → f (bt s i) = true := by
  rw [List.all_eq_true]
  constructor
  · intro h i hi
    have hl : i < (bytesOf s).length := by rw [bytesOf_size]; exact hi
    have e : bt s i = (bytesOf s)[i] := by rw [bt_rd]; simp [rd, List.getD_eq_getElem?_getD, List.getElem?_eq_getElem hl]
    rw [e]; exact h _ (List.getElem_mem hl)
  · intro h x hx
    obtain ⟨i, hl, rfl⟩ := List.getElem_of_mem hx
    have e : bt s i = (bytesOf s)[i] := by rw [bt_rd]; simp [rd, List.getD_eq_getElem?_getD, List.getElem?_eq_getElem hl]
    rw [← e]; exact h i (by rwa [bytesOf_size] at hl)
theorem sTextOk_loop (s : ByteArray) (hs : s.size ≤ 9223372036854775806) : ∀ (d : Nat) (i : Nat), i + d = s.size → (∀ j : Nat, j < i → okb (bt s j) = true) → Ev (fun k => spec_TextOk.l0 k s i) (textOk (bytesOf s)) := by
  intro d
  induction d with
  | zero =>
    intro i hi ha
    refine Ev.step (f := fun _ => some (decide ((s.size : Int) ≤ 40))) (fun k => ?_) ?_
    · simp only [spec_TextOk.l0]; rw [if_neg (by omega)]
    · have e : textOk (bytesOf s) = decide ((s.size : Int) ≤ 40) := by
        unfold textOk
        rw [(all_rd s okb).2 (fun j hj => ha j (by omega)), bytesOf_size, Bool.true_and]
        by_cases h : s.size ≤ 40
        · rw [decide_eq_true h, decide_eq_true (by omega)]
        · rw [decide_eq_false h, decide_eq_false (by omega)]
      rw [e]; exact Ev.now _
  | succ d ih =>
    intro i hi ha
    cases hb : okb (bt s i) with
    | true =>
      refine Ev.step (f := fun k => spec_TextOk.l0 k s ((i + 1 : Nat) : Int)) (fun k => ?_) (ih (i + 1) (by omega) (fun j hj => ?_))
      · simp only [spec_TextOk.l0]; rw [if_pos (by omega), if_pos (by omega), l2Byte_eq, hb, wrap_id (by omega) (by omega)]; rfl
      · by_cases e : j = i
        · subst e; exact hb
        · exact ha j (by omega)
    | false =>
      refine Ev.step (f := fun _ => some false) (fun k => ?_) ?_
      · simp only [spec_TextOk.l0]; rw [if_pos (by omega), if_pos (by omega), l2Byte_eq, hb]; rfl
      · have e : textOk (bytesOf s) = false := by
          unfold textOk
          rw [Bool.and_eq_false_iff]; left
          cases h : (bytesOf s).all okb with
          | false => rfl
          | true => have := (all_rd s okb).1 h i (by omega); rw [hb] at this; cases this
        rw [e]; exact Ev.now _
theorem sTextOk (s : ByteArray) (hs : s.size ≤ 9223372036854775806) : Ev (fun k => spec_TextOk.f k s) (textOk (bytesOf s)) :=
  sTextOk_loop s hs s.size 0 (by omega) (fun j hj => absurd hj (Nat.not_lt_zero _))
theorem iTextOk (s : ByteArray) (hs : s.size ≤ 140737488355328) : impl_TextOk.f s = some (textOk (bytesOf s)) := by
  unfold impl_TextOk.f textOk
  rw [if_pos hs, bytesOf_size]; rfl
end Go.Proofs.YtdphdheodloofaaDoor.Pure
namespace Go.Proofs.YtdphdheodloofaaDoor.Plain
open Go.Proofs.YtdphdheodloofaaDoorW.PrintWords Go.RowKit
set_option linter.unusedVariables false
set_option linter.unusedSimpArgs false
/-- A packet in form. -/
def pktOk (k a p b q n : Int) (l : List Int) : Bool := anyE a p && anyE b q && decide (0 ≤ n ∧ n ≤ 99) && ((decide (k = 1) && textOk l && decide (l ≠ [])) || (decide (k = 2) && decide (l = [])))
theorem pktOk_iff (k a p b q n : Int) (l : List Int) : pktOk k a p b q n l = true ↔ (anyE a p = true ∧ anyE b q = true) ∧ (0 ≤ n ∧ n ≤ 99) ∧ ((k = 1 ∧ textOk l = true ∧ l ≠ []) ∨ (k = 2 ∧ l = [])) := by
  simp [pktOk, and_assoc]
/-- A text, cut at each blank. -/
def split32 : List Int → List (List Int)
  | [] => [[]]
  | x :: l => if x = 32 then [] :: split32 l else match split32 l with
    | [] => [[x]]
    | w :: r => (x :: w) :: r
theorem split32_one : ∀ (u : List Int), 32 ∉ u → split32 u = [u]
  | [], _ => rfl
  | x :: u, h => by
    have h1 : x ≠ 32 := fun e => h (by rw [e]; exact List.mem_cons_self)
    have h2 : 32 ∉ u := fun e => h (List.mem_cons_of_mem _ e)
    unfold split32
    rw [if_neg h1, split32_one u h2]
theorem split32_app : ∀ (u v : List Int), 32 ∉ u → split32 (u ++ 32 :: v) = u :: split32 v
  | [], v, _ => by simp [split32]
  | x :: u, v, h => by
    have h1 : x ≠ 32 := fun e => h (by rw [e]; exact List.mem_cons_self)
    have h2 : 32 ∉ u := fun e => h (List.mem_cons_of_mem _ e)
    rw [List.cons_append, split32, if_neg h1, split32_app u v h2]
/-- The words, a blank between each two. -/
def join32 : List (List Int) → List Int
  | [] => []
  | [w] => w
  | w :: r => w ++ 32 :: join32 r
theorem split32_join : ∀ (ws : List (List Int)), ws ≠ [] → (∀ w ∈ ws, 32 ∉ w) → split32 (join32 ws) = ws
  | [], h, _ => absurd rfl h
  | [w], _, h => split32_one w (h w (by simp))
  | w :: x :: r, _, h => by
    show split32 (w ++ 32 :: join32 (x :: r)) = _
    rw [split32_app _ _ (h w (by simp)), split32_join (x :: r) (by simp) (fun y hy => h y (List.mem_cons_of_mem _ hy))]
theorem dec_no32 (n : Int) (h : 0 ≤ n ∧ n ≤ 99) : 32 ∉ dec n := by
  unfold dec; split <;> simp <;> omega
theorem endText_no32 (a p : Int) : 32 ∉ endText a p := by
  cases h : anyE a p with
  | false => rw [endText_none a p h]; simp
  | true =>
    rcases (anyE_iff a p).1 h with h2 | ⟨rfl, h2⟩
    · rw [endText_host a p h2]; simp; omega
    · rw [endText_door p h2]; simp; omega
theorem textOk_no32 {l : List Int} (h : textOk l = true) : 32 ∉ l := by
  intro hm
  simp only [textOk, Bool.and_eq_true, List.all_eq_true] at h
  have := h.1 32 hm
  simp [okb] at this
/-- The words of a packet in form. -/
def pktWords (k a p b q n : Int) (l : List Int) : List (List Int) := if k = 2 then [[97, 99, 107], endText a p, endText b q, dec n] else [[100, 97, 116, 97], endText a p, endText b q, dec n, l]
def pktText (k a p b q n : Int) (l : List Int) : List Int := if pktOk k a p b q n l = true then join32 (pktWords k a p b q n l) else []
theorem pktWords_no32 {k a p b q n : Int} {l : List Int} (h : pktOk k a p b q n l = true) : ∀ w ∈ pktWords k a p b q n l, 32 ∉ w := by
  obtain ⟨_, h3, h4⟩ := (pktOk_iff _ _ _ _ _ _ _).1 h
  have hd := dec_no32 n h3
  have ha := endText_no32 a p
  have hb := endText_no32 b q
  intro w hw
  unfold pktWords at hw
  split at hw
  · simp only [List.mem_cons, List.not_mem_nil, or_false] at hw
    rcases hw with rfl | rfl | rfl | rfl <;> first | assumption | decide
  · rename_i hk
    have hl : 32 ∉ l := by
      rcases h4 with h4 | h4
      · exact textOk_no32 h4.2.1
      · rw [h4.2]; simp
    simp only [List.mem_cons, List.not_mem_nil, or_false] at hw
    rcases hw with rfl | rfl | rfl | rfl | rfl <;> first | assumption | decide
theorem pktWords_ne (k a p b q n : Int) (l : List Int) : pktWords k a p b q n l ≠ [] := by unfold pktWords; split <;> simp
theorem pktText_nil (k a p b q n : Int) (l : List Int) : pktText k a p b q n l = [] ↔ pktOk k a p b q n l = false := by
  unfold pktText
  cases h : pktOk k a p b q n l with
  | false => simp
  | true =>
    simp only [if_true]
    constructor
    · intro e
      have := split32_join _ (pktWords_ne k a p b q n l) (pktWords_no32 h)
      rw [e] at this
      unfold pktWords at this
      split at this <;> simp [split32] at this
    · intro e; cases e
end Go.Proofs.YtdphdheodloofaaDoor.Plain
namespace Go.Proofs.YtdphdheodloofaaDoor.Pure
open Go.RowKit Go.Proofs.YtdphdheodloofaaDoorW.PrintWords Go.Proofs.YtdphdheodloofaaDoorW.PrintMore Go.Proofs.YtdphdheodloofaaDoor.Plain Go.Proofs.YtdphdheodloofaaDoor.A
set_option linter.unusedVariables false
set_option linter.unusedSimpArgs false
theorem sAny_eq (a p : Int) : spec_l1Any.f a p = some (anyE a p) := by
  unfold spec_l1Any.f anyE
  rw [sIn_eq, sOut_eq, sDoor_eq]
  cases inE a p <;> cases outE a p <;> simp
theorem iAny_eq (a p : Int) : impl_End_any.f a p = some (anyE a p) := by
  unfold impl_End_any.f anyE
  rw [iIn_eq, iOut_eq, iDoor_eq]
  cases inE a p <;> cases outE a p <;> simp
theorem toList_nil (s : ByteArray) : s.toList = ([] : List UInt8) ↔ bytesOf s = [] := by
  have := bytesOf_toList (s := s) (t := ByteArray.empty)
  rw [show ByteArray.empty.toList = ([] : List UInt8) from by rw [ByteArray.toList_eq]; rfl] at this
  rw [this]; rfl
theorem toList_emp (s : ByteArray) : s.toList.isEmpty = decide (bytesOf s = []) := by
  rw [Bool.eq_iff_iff, List.isEmpty_iff, decide_eq_true_eq, toList_nil]
theorem sPktOk (k a p b q n : Int) (s : ByteArray) (hs : s.size ≤ 9223372036854775806) : Ev (fun r => spec_PktOk.f r k a p b q n s) (pktOk k a p b q n (bytesOf s)) := by
  unfold spec_PktOk.f pktOk
  refine Ev.call (sAny_eq a p) ?_
  have fin : ∀ (x : Bool) (hx : x = true), Ev (fun r => spec_PktOk.j0 r x k a p b q n s) false := fun x hx => Ev.step (f := fun _ => some false) (fun r => by simp only [spec_PktOk.j0]; rw [if_pos hx]) (Ev.now _)
  cases h1 : anyE a p with
  | false => simp; exact fin _ rfl
  | true =>
    simp only [if_true]
    refine Ev.call (sAny_eq b q) ?_
    cases h2 : anyE b q with
    | false => simp; exact fin _ rfl
    | true =>
      simp only [if_true]
      refine Ev.call (l6In_eq n 0 99) ?_
      by_cases h3 : 0 ≤ n ∧ n ≤ 99
      · rw [decide_eq_true h3]
        simp only [Bool.not_true, Bool.true_and]
        refine Ev.step (f := fun r => if k = 1 then ((spec_TextOk.f r s).bind fun t => (if t = true then (some (!s.toList.isEmpty)) else (some false))) else (if k = 2 then (some s.toList.isEmpty) else (some false))) (fun r => by simp only [spec_PktOk.j0]; rw [if_neg (by decide)]) ?_
        by_cases hk : k = 1
        · simp only [hk, if_true]
          refine Ev.bind (sTextOk s hs) ?_
          cases ht : textOk (bytesOf s) with
          | false => simp; exact Ev.now _
          | true => simp only [if_true, toList_emp]; simp; exact Ev.now _
        · simp only [if_neg hk]
          by_cases hk2 : k = 2
          · simp only [hk2, if_true, toList_emp]; simp; exact Ev.now _
          · simp [hk, hk2]; exact Ev.now _
      · rw [decide_eq_false h3]
        simp; exact fin _ rfl
theorem iPktOk (k a p b q n : Int) (s : ByteArray) (hs : s.size ≤ 140737488355328) : impl_PktOk.f k a p b q n s = some (pktOk k a p b q n (bytesOf s)) := by
  unfold impl_PktOk.f pktOk
  rw [iAny_eq, iAny_eq, within_eq, iTextOk s hs, toList_emp]
  simp only [toList_nil]
  cases anyE a p <;> cases anyE b q <;> by_cases h3 : 0 ≤ n ∧ n ≤ 99 <;> by_cases hk : k = 1 <;> by_cases hk2 : k = 2 <;> cases textOk (bytesOf s) <;> by_cases he : bytesOf s = [] <;> simp [h3, hk, hk2, he] <;> omega
theorem szPkt_eq (k a p b q n : Int) (s : ByteArray) (hs : s.size ≤ 9223372036854775807) : ∃ t, laws_szPkt.f k a p b q n s 1048576 = some t ∧ (¬ t < 0 → s.size ≤ 1048576) := by
  unfold laws_szPkt.f
  rw [wrap_id (by omega) (by omega)]
  by_cases h : (1048576 : Int) - (s.size : Int) < 0
  · rw [if_pos h]; exact ⟨-1, rfl, fun h => absurd (by decide) h⟩
  · rw [if_neg h]; exact ⟨_, rfl, fun _ => by omega⟩
theorem toPkt_eq (k a p b q n : Int) (s : ByteArray) : laws_toPkt.f k a p b q n s = some (k, a, p, b, q, n, s) := rfl
theorem bytesOf_nums (l : List Int) (h : Code l) : bytesOf (strOfNums l) = l := by
  unfold bytesOf
  rw [strOfNums_data, List.map_map]
  conv => rhs; rw [← List.map_id l]
  apply List.map_congr_left
  intro x hx
  have := h x hx
  show ((UInt8.ofNat x.toNat).toNat : Int) = x
  rw [UInt8.toNat_ofNat']
  omega
theorem dec_ev (n : Int) (h0 : 0 ≤ n) (h1 : n ≤ 99) : ∃ s, Ev (fun k => spec_l6Dec.f k n) s ∧ bytesOf s = dec n := by
  have base : ∀ m : Int, 0 ≤ m → m < 10 → Ev (fun k => spec_l6Dec.f k m) (strOfNums [48 + m]) := fun m m0 m1 => by
    refine Ev.step (f := fun _ => some (strOfNums [48 + m])) (fun k => ?_) (Ev.now _)
    simp only [spec_l6Dec.f]
    rw [if_neg (by omega), if_neg (by omega), if_pos m1, wrap_id (by omega) (by omega), Int.emod_eq_of_lt (by omega) (by omega)]
  by_cases h : n < 10
  · refine ⟨_, base n h0 h, ?_⟩
    rw [bytesOf_nums _ (by intro x hx; simp at hx; omega)]
    unfold dec; rw [if_pos h]
  · have e1 : Int.tdiv n 10 = n / 10 := Int.tdiv_eq_ediv_of_nonneg h0
    have e2 : Int.tmod n 10 = n % 10 := Int.tmod_eq_emod_of_nonneg h0
    refine ⟨strOfNums [48 + n / 10] ++ strOfNums [48 + n % 10], ?_, ?_⟩
    · refine Ev.step (f := fun k => (spec_l6Dec.f k (n / 10)).bind fun t => ((some (([48 + n % 10] : List Int) : List Int)).bind fun y => (if t.size + (strOfNums y).size ≤ 9223372036854775807 then (some (t ++ (strOfNums y))) else (none)))) (fun k => ?_) ?_
      · simp only [spec_l6Dec.f]
        rw [if_neg (by omega), if_neg (by omega), if_neg h, e1, e2, wrap_id (n := n / 10) (by omega) (by omega), wrap_id (n := 48 + n % 10) (by omega) (by omega), Int.emod_eq_of_lt (a := 48 + n % 10) (by omega) (by omega)]
      · refine Ev.bind (base (n / 10) (by omega) (by omega)) (Ev.call rfl (Ev.pos ?_ (Ev.now _)))
        rw [strOfNums_size, strOfNums_size]; simp
    · rw [bytesOf_append, bytesOf_nums _ (by intro x hx; simp at hx; omega), bytesOf_nums _ (by intro x hx; simp at hx; omega)]
      unfold dec; rw [if_neg h]; rfl
theorem dec_len (n : Int) : (dec n).length ≤ 2 := by unfold dec; split <;> simp
/-- The reference's text of an end. -/
theorem sEndText (a p : Int) : ∃ s, Ev (fun k => spec_EndText.f k a p) s ∧ bytesOf s = endText a p := by
  unfold spec_EndText.f
  cases h : anyE a p with
  | false =>
    refine ⟨⟨#[]⟩, Ev.call (sAny_eq a p) (Ev.neg (by rw [h]; decide) (Ev.now _)), ?_⟩
    rw [endText_none a p h]; rfl
  | true =>
    have hr : (1 ≤ a ∧ a ≤ 9) ∧ 1 ≤ p ∧ p ≤ 17 := by rcases (anyE_iff a p).1 h with h | h <;> omega
    obtain ⟨s, hs, es⟩ := dec_ev a (by omega) (by omega)
    obtain ⟨t, ht, et⟩ := dec_ev p (by omega) (by omega)
    have l1 : s.size ≤ 2 := by rw [← bytesOf_size, es]; exact dec_len a
    have l2 : t.size ≤ 2 := by rw [← bytesOf_size, et]; exact dec_len p
    refine ⟨(s ++ (⟨#[58]⟩ : ByteArray)) ++ t, Ev.call (sAny_eq a p) (Ev.pos h (Ev.bind hs (Ev.pos (by omega) (Ev.bind ht (Ev.pos (by omega) (Ev.now _)))))), ?_⟩
    rw [bytesOf_append, bytesOf_append, es, et]
    unfold endText
    rw [if_pos h, List.append_assoc]; rfl
theorem endText_len (a p : Int) : (endText a p).length ≤ 4 := by
  cases h : anyE a p with
  | false => rw [endText_none a p h]; simp
  | true =>
    rcases (anyE_iff a p).1 h with h2 | ⟨rfl, h2⟩
    · rw [endText_host a p h2]; simp
    · rw [endText_door p h2]; simp
theorem decDigits_dec : ∀ n : Nat, n < 100 → (Lib.decDigits n).map (fun b => (b.toNat : Int)) = dec (n : Int) := by decide +kernel
theorem bytesOf_list (l : List UInt8) : bytesOf (⟨l.toArray⟩ : ByteArray) = l.map (fun b => (b.toNat : Int)) := by
  simp [bytesOf]
theorem itoa_eq (a : Int) (h : 0 ≤ a ∧ a ≤ 99) : ∃ s, strconv_Itoa.f a = some s ∧ bytesOf s = dec a := by
  obtain ⟨n, rfl⟩ := Int.eq_ofNat_of_zero_le h.1
  refine ⟨_, by unfold strconv_Itoa.f; rw [if_pos h], ?_⟩
  rw [bytesOf_list]
  exact decDigits_dec n (by omega)
theorem dec_len2 (n : Int) : (dec n).length ≤ 2 := by unfold dec; split <;> simp
/-- EndText answers, with the end's text. -/
theorem iEndText (a p : Int) : ∃ s, impl_EndText.f a p = some s ∧ bytesOf s = endText a p := by
  unfold impl_EndText.f
  rw [iAny_eq]
  cases hc : anyE a p with
  | false =>
    refine ⟨⟨#[]⟩, by simp, ?_⟩
    rw [endText_none a p hc]; rfl
  | true =>
    have hr := (anyE_iff a p).1 hc
    obtain ⟨s, hs, hsb⟩ := itoa_eq a (by omega)
    obtain ⟨t, ht, htb⟩ := itoa_eq p (by omega)
    have ls : s.size ≤ 2 := by have := congrArg List.length hsb; rw [bytesOf_length] at this; have := dec_len2 a; omega
    have lt : t.size ≤ 2 := by have := congrArg List.length htb; rw [bytesOf_length] at this; have := dec_len2 p; omega
    refine ⟨(s ++ (⟨#[58]⟩ : ByteArray)) ++ t, ?_, ?_⟩
    · simp only [Option.bind_some, if_true, hs, ht]
      rw [if_pos (by omega), if_pos (by omega)]
    · have e1 : bytesOf (⟨#[58]⟩ : ByteArray) = [58] := rfl
      rw [bytesOf_append, bytesOf_append, hsb, htb, e1, endText, if_pos hc]
      simp
theorem join4 (a b c d : ByteArray) (h : a.size + b.size + c.size + d.size ≤ 1000) : ∃ t, strings_Join.f [a, b, c, d] (⟨#[32]⟩ : ByteArray) = some t ∧ bytesOf t = join32 [bytesOf a, bytesOf b, bytesOf c, bytesOf d] := by
  have e : Lib.join ([a, b, c, d].map (·.data.toList)) (⟨#[32]⟩ : ByteArray).data.toList = a.data.toList ++ 32 :: (b.data.toList ++ 32 :: (c.data.toList ++ 32 :: d.data.toList)) := by
    simp [Lib.join, List.intercalate, List.intersperse]
  have la : a.data.toList.length = a.size := by rw [Array.length_toList]; rfl
  have lb : b.data.toList.length = b.size := by rw [Array.length_toList]; rfl
  have lc : c.data.toList.length = c.size := by rw [Array.length_toList]; rfl
  have ld : d.data.toList.length = d.size := by rw [Array.length_toList]; rfl
  refine ⟨⟨(Lib.join ([a, b, c, d].map (·.data.toList)) (⟨#[32]⟩ : ByteArray).data.toList).toArray⟩, ?_, ?_⟩
  · unfold strings_Join.f
    rw [if_pos ⟨by rw [e]; simp only [List.length_append, List.length_cons]; omega, by simp⟩]
  · rw [bytesOf_list, e]
    simp [join32, bytesOf]
theorem join5 (a b c d x : ByteArray) (h : a.size + b.size + c.size + d.size + x.size ≤ 1000) : ∃ t, strings_Join.f [a, b, c, d, x] (⟨#[32]⟩ : ByteArray) = some t ∧ bytesOf t = join32 [bytesOf a, bytesOf b, bytesOf c, bytesOf d, bytesOf x] := by
  have e : Lib.join ([a, b, c, d, x].map (·.data.toList)) (⟨#[32]⟩ : ByteArray).data.toList = a.data.toList ++ 32 :: (b.data.toList ++ 32 :: (c.data.toList ++ 32 :: (d.data.toList ++ 32 :: x.data.toList))) := by
    simp [Lib.join, List.intercalate, List.intersperse]
  have la : a.data.toList.length = a.size := by rw [Array.length_toList]; rfl
  have lb : b.data.toList.length = b.size := by rw [Array.length_toList]; rfl
  have lc : c.data.toList.length = c.size := by rw [Array.length_toList]; rfl
  have ld : d.data.toList.length = d.size := by rw [Array.length_toList]; rfl
  have lx : x.data.toList.length = x.size := by rw [Array.length_toList]; rfl
  refine ⟨⟨(Lib.join ([a, b, c, d, x].map (·.data.toList)) (⟨#[32]⟩ : ByteArray).data.toList).toArray⟩, ?_, ?_⟩
  · unfold strings_Join.f
    rw [if_pos ⟨by rw [e]; simp only [List.length_append, List.length_cons]; omega, by simp⟩]
  · rw [bytesOf_list, e]
    simp [join32, bytesOf]
theorem iPktText (k a p b q n : Int) (s : ByteArray) (hs : s.size ≤ 140737488355328) : ∃ t, impl_PktText.f k a p b q n s = some t ∧ bytesOf t = pktText k a p b q n (bytesOf s) := by
  unfold impl_PktText.f
  rw [iPktOk k a p b q n s hs]
  cases h : pktOk k a p b q n (bytesOf s) with
  | false => exact ⟨⟨#[]⟩, by simp, by rw [(pktText_nil _ _ _ _ _ _ _).2 h]; rfl⟩
  | true =>
    obtain ⟨⟨h1, h2⟩, h3, h4⟩ := (pktOk_iff _ _ _ _ _ _ _).1 h
    obtain ⟨x, hx, ex⟩ := iEndText a p
    obtain ⟨y, hy, ey⟩ := iEndText b q
    obtain ⟨z, hz, ez⟩ := itoa_eq n h3
    have lx := bytesOf_length x
    have ly := bytesOf_length y
    have lz := bytesOf_length z
    rw [ex] at lx; rw [ey] at ly; rw [ez] at lz
    have := endText_len a p
    have := endText_len b q
    have := dec_len n
    have e3 : bytesOf (⟨#[97, 99, 107]⟩ : ByteArray) = [97, 99, 107] := rfl
    have e4 : bytesOf (⟨#[100, 97, 116, 97]⟩ : ByteArray) = [100, 97, 116, 97] := rfl
    have s3 : (⟨#[97, 99, 107]⟩ : ByteArray).size = 3 := rfl
    have s4 : (⟨#[100, 97, 116, 97]⟩ : ByteArray).size = 4 := rfl
    simp only [Option.bind_some, if_true, hx, hy, hz]
    unfold pktText pktWords
    rw [if_pos h]
    rcases h4 with ⟨rfl, ht, hn⟩ | ⟨rfl, ht⟩
    · have hl := bytesOf_length s
      have h40 : (bytesOf s).length ≤ 40 := by simp only [textOk, Bool.and_eq_true, decide_eq_true_eq] at ht; exact ht.2
      obtain ⟨t, ht1, ht2⟩ := join5 (⟨#[100, 97, 116, 97]⟩ : ByteArray) x y z s (by omega)
      refine ⟨t, ?_, ?_⟩
      · rw [if_pos rfl, if_pos (by simp)]
        have e : ([(⟨#[97, 99, 107]⟩ : ByteArray), x, y, z].set (0 : Int).toNat (⟨#[100, 97, 116, 97]⟩ : ByteArray)) = [(⟨#[100, 97, 116, 97]⟩ : ByteArray), x, y, z] := rfl
        simp only [e]
        rw [if_pos (by simp)]
        have e2 : [(⟨#[100, 97, 116, 97]⟩ : ByteArray), x, y, z] ++ [s] = [(⟨#[100, 97, 116, 97]⟩ : ByteArray), x, y, z, s] := rfl
        rw [e2, ht1]; rfl
      · rw [ht2, ex, ey, ez, e4]; rfl
    · obtain ⟨t, ht1, ht2⟩ := join4 (⟨#[97, 99, 107]⟩ : ByteArray) x y z (by omega)
      refine ⟨t, ?_, ?_⟩
      · rw [if_neg (by decide), ht1]; rfl
      · rw [ht2, ex, ey, ez, e3]; rfl
theorem sPktText (k a p b q n : Int) (s : ByteArray) (hs : s.size ≤ 140737488355328) : ∃ t, Ev (fun r => spec_PktText.f r k a p b q n s) t ∧ bytesOf t = pktText k a p b q n (bytesOf s) := by
  unfold spec_PktText.f
  cases h : pktOk k a p b q n (bytesOf s) with
  | false => exact ⟨⟨#[]⟩, Ev.bind (sPktOk k a p b q n s (by omega)) (Ev.neg (by rw [h]; decide) (Ev.now _)), by rw [(pktText_nil _ _ _ _ _ _ _).2 h]; rfl⟩
  | true =>
    obtain ⟨⟨h1, h2⟩, h3, h4⟩ := (pktOk_iff _ _ _ _ _ _ _).1 h
    obtain ⟨x, hx, ex⟩ := sEndText a p
    obtain ⟨y, hy, ey⟩ := sEndText b q
    obtain ⟨z, hz, ez⟩ := dec_ev n h3.1 h3.2
    have lx := bytesOf_length x
    have ly := bytesOf_length y
    have lz := bytesOf_length z
    rw [ex] at lx; rw [ey] at ly; rw [ez] at lz
    have := endText_len a p
    have := endText_len b q
    have := dec_len n
    unfold pktText pktWords
    rw [if_pos h]
    rcases h4 with ⟨rfl, ht, hn⟩ | ⟨rfl, ht⟩
    · have hl := bytesOf_length s
      have h40 : (bytesOf s).length ≤ 40 := by simp only [textOk, Bool.and_eq_true, decide_eq_true_eq] at ht; exact ht.2
      refine ⟨(((⟨#[100, 97, 116, 97, 32]⟩ : ByteArray) ++ ((((x ++ (⟨#[32]⟩ : ByteArray)) ++ y) ++ (⟨#[32]⟩ : ByteArray)) ++ z)) ++ (⟨#[32]⟩ : ByteArray)) ++ s, ?_, ?_⟩
      · refine Ev.bind (sPktOk 1 a p b q n s (by omega)) (Ev.pos h ?_)
        refine Ev.bind hx (Ev.pos (by omega) (Ev.bind hy (Ev.pos (by omega) (Ev.pos (by omega) (Ev.bind hz (Ev.pos (by omega) ?_))))))
        refine Ev.neg (by decide) ?_
        refine Ev.pos (show 5 + (x.size + 1 + y.size + 1 + z.size) ≤ 9223372036854775807 from by omega) ?_
        refine Ev.pos (show 5 + (x.size + 1 + y.size + 1 + z.size) + 1 ≤ 9223372036854775807 from by omega) ?_
        refine Ev.pos (show 5 + (x.size + 1 + y.size + 1 + z.size) + 1 + s.size ≤ 9223372036854775807 from by omega) ?_
        exact Ev.now _
      · have e5 : bytesOf (⟨#[100, 97, 116, 97, 32]⟩ : ByteArray) = [100, 97, 116, 97, 32] := rfl
        have e1 : bytesOf (⟨#[32]⟩ : ByteArray) = [32] := rfl
        simp only [bytesOf_append, ex, ey, ez, e5, e1]
        simp [join32]
    · refine ⟨(⟨#[97, 99, 107, 32]⟩ : ByteArray) ++ ((((x ++ (⟨#[32]⟩ : ByteArray)) ++ y) ++ (⟨#[32]⟩ : ByteArray)) ++ z), ?_, ?_⟩
      · refine Ev.bind (sPktOk 2 a p b q n s (by omega)) (Ev.pos h ?_)
        refine Ev.bind hx (Ev.pos (by omega) (Ev.bind hy (Ev.pos (by omega) (Ev.pos (by omega) (Ev.bind hz (Ev.pos (by omega) ?_))))))
        refine Ev.pos rfl ?_
        refine Ev.pos (show 4 + (x.size + 1 + y.size + 1 + z.size) ≤ 9223372036854775807 from by omega) ?_
        exact Ev.now _
      · have e5 : bytesOf (⟨#[97, 99, 107, 32]⟩ : ByteArray) = [97, 99, 107, 32] := rfl
        have e1 : bytesOf (⟨#[32]⟩ : ByteArray) = [32] := rfl
        simp only [bytesOf_append, ex, ey, ez, e5, e1]
        simp [join32]
theorem FnExactPktText (k a p b q n : Int) (s : ByteArray) (_ : (Lit.int .i64 k).wf = true) (_ : (Lit.int .i64 a).wf = true) (_ : (Lit.int .i64 p).wf = true) (_ : (Lit.int .i64 b).wf = true) (_ : (Lit.int .i64 q).wf = true) (_ : (Lit.int .i64 n).wf = true) (hs : s.size ≤ maxLen) : ∃ r, laws_FnExactPktText.f r k a p b q n s = some true := by
  apply Ev.rounds
  unfold laws_FnExactPktText.f
  obtain ⟨t, e, ht⟩ := szPkt_eq k a p b q n s hs
  refine Ev.call e ?_
  refine Ev.ite (fun _ => Ev.now _) (fun h => ?_)
  have hs2 := ht h
  obtain ⟨x, hx, ex⟩ := sPktText k a p b q n s (by omega)
  obtain ⟨y, hy, ey⟩ := iPktText k a p b q n s (by omega)
  refine Ev.call (toPkt_eq k a p b q n s) ?_
  refine Ev.bind hx ?_
  refine Ev.call (toPkt_eq k a p b q n s) ?_
  refine Ev.call hy ?_
  exact Ev.pos (bytesOf_toList.2 (ey.trans ex.symm)) (Ev.now _)
end Go.Proofs.YtdphdheodloofaaDoor.Pure
