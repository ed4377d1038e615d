/- The law on how ends are written, as plain Lean: an end is written in one way. -/
import Derived.Test.YtdphdheodloofaaDoorV
import Derived.Lib.Strings
import Derived.Lib.IndexBytes
import Derived.Lib.IndexMore
import Derived.IntWalk
import Derived.Laws.Bits64
import Derived.Test.YtdphdheodloofaaDoorAx3
import Derived.Test.YtdphdheodloofaaDoorAx4
import Derived.Test.YtdphdheodloofaaDoorAx5
import Derived.Test.YtdphdheodloofaaDoorAx6
import Derived.Test.YtdphdheodloofaaDoorAx9
import Derived.Test.YtdphdheodloofaaDoorAx10
import Derived.Test.YtdphdheodloofaaDoorAx14
import Derived.Test.YtdphdheodloofaaDoorAx33
namespace Go.Proofs.YtdphdheodloofaaDoor.Plain
open Go.Proofs.YtdphdheodloofaaDoorW.PrintWords Go.RowKit
set_option linter.unusedVariables false
set_option linter.unusedSimpArgs false
def inE (a p : Int) : Bool := decide (1 ≤ a ∧ a ≤ 3 ∧ 1 ≤ p ∧ p ≤ 9)
def outE (a p : Int) : Bool := decide (4 ≤ a ∧ a ≤ 6 ∧ 1 ≤ p ∧ p ≤ 9)
def doorE (a p : Int) : Bool := decide (a = 9 ∧ 10 ≤ p ∧ p ≤ 17)
def anyE (a p : Int) : Bool := inE a p || outE a p || doorE a p
/-- A number from 0 to 99 in decimals. -/
def dec (n : Int) : List Int := if n < 10 then [48 + n] else [48 + n / 10, 48 + n % 10]
def endText (a p : Int) : List Int := if anyE a p then dec a ++ 58 :: dec p else []
def endRead (l : List Int) : Option (Int × Int) :=
  match l with
  | [x, c, y] => if c = 58 ∧ 49 ≤ x ∧ x ≤ 54 ∧ 49 ≤ y ∧ y ≤ 57 then some (x - 48, y - 48) else none
  | [x, c, y, z] => if x = 57 ∧ c = 58 ∧ y = 49 ∧ 48 ≤ z ∧ z ≤ 55 then some (9, z - 38) else none
  | _ => none
theorem anyE_iff (a p : Int) : anyE a p = true ↔ (1 ≤ a ∧ a ≤ 6 ∧ 1 ≤ p ∧ p ≤ 9) ∨ (a = 9 ∧ 10 ≤ p ∧ p ≤ 17) := by
  simp only [anyE, inE, outE, doorE, Bool.or_eq_true, decide_eq_true_eq]; omega
theorem endText_host (a p : Int) (h : 1 ≤ a ∧ a ≤ 6 ∧ 1 ≤ p ∧ p ≤ 9) : endText a p = [48 + a, 58, 48 + p] := by
  have : anyE a p = true := (anyE_iff a p).2 (.inl h)
  simp only [endText, this, if_true, dec]
  rw [if_pos (by omega), if_pos (by omega)]; rfl
theorem endText_door (p : Int) (h : 10 ≤ p ∧ p ≤ 17) : endText 9 p = [57, 58, 49, 38 + p] := by
  have : anyE 9 p = true := (anyE_iff 9 p).2 (.inr ⟨rfl, h.1, h.2⟩)
  simp only [endText, this, if_true, dec]
  rw [if_pos (by omega), if_neg (by omega)]
  have h1 : 48 + p / 10 = 49 := by omega
  have h2 : 48 + p % 10 = 38 + p := by omega
  simp [h1, h2]
theorem endText_none (a p : Int) (h : anyE a p = false) : endText a p = [] := by simp [endText, h]
/-- What endRead reads is any end, and the text is its own; and every end is read. -/
theorem endRead_iff (l : List Int) (a p : Int) : endRead l = some (a, p) ↔ anyE a p = true ∧ endText a p = l := by
  constructor
  · intro h
    unfold endRead at h
    split at h
    · rename_i x c y
      split at h
      · rename_i hc
        simp only [Option.some.injEq, Prod.mk.injEq] at h
        obtain ⟨rfl, rfl⟩ := h
        have h3 : 1 ≤ x - 48 ∧ x - 48 ≤ 6 ∧ 1 ≤ y - 48 ∧ y - 48 ≤ 9 := by omega
        refine ⟨(anyE_iff _ _).2 (.inl h3), ?_⟩
        rw [endText_host _ _ h3]
        have h4 : 48 + (x - 48) = x := by omega
        have h5 : 48 + (y - 48) = y := by omega
        rw [h4, h5, hc.1]
      · cases h
    · rename_i x c y z
      split at h
      · rename_i hc
        simp only [Option.some.injEq, Prod.mk.injEq] at h
        obtain ⟨rfl, rfl⟩ := h
        have h3 : 10 ≤ z - 38 ∧ z - 38 ≤ 17 := by omega
        refine ⟨(anyE_iff _ _).2 (.inr ⟨rfl, h3⟩), ?_⟩
        rw [endText_door _ h3]
        have h4 : 38 + (z - 38) = z := by omega
        rw [h4, hc.1, hc.2.1, hc.2.2.1]
      · cases h
    · cases h
  · rintro ⟨h1, rfl⟩
    rcases (anyE_iff a p).1 h1 with h2 | ⟨rfl, h2⟩
    · rw [endText_host a p h2]
      simp only [endRead]
      rw [if_pos ⟨trivial, by omega, by omega, by omega, by omega⟩]
      have h4 : 48 + a - 48 = a := by omega
      have h5 : 48 + p - 48 = p := by omega
      rw [h4, h5]
    · rw [endText_door p h2]
      simp only [endRead]
      rw [if_pos ⟨trivial, trivial, trivial, by omega, by omega⟩]
      have h5 : 38 + p - 38 = p := by omega
      rw [h5]
theorem bytesOf_size (s : ByteArray) : (bytesOf s).length = s.size := bytesOf_length s
theorem bt_rd (s : ByteArray) (i : Int) : bt s i = rd (bytesOf s) i := (rd_bytesOf s i).symm
theorem bytesOf_append (s t : ByteArray) : bytesOf (s ++ t) = bytesOf s ++ bytesOf t := by
  simp [bytesOf, ByteArray.data_append]
theorem bytesOf_inj {s t : ByteArray} (h : bytesOf s = bytesOf t) : s = t := by
  have h1 : s.data.toList = t.data.toList := by
    unfold bytesOf at h
    exact (List.map_inj_right (fun a b e => UInt8.toNat_inj.1 (by omega))).1 h
  have h2 : s.data = t.data := Array.toList_inj.1 h1
  cases s; cases t; simp_all
theorem bytesOf_toList {s t : ByteArray} : s.toList = t.toList ↔ bytesOf s = bytesOf t := by
  constructor
  · intro h
    have : s.data.toList = t.data.toList := by simpa [ByteArray.toList_eq] using h
    simp [bytesOf, this]
  · intro h; rw [bytesOf_inj h]
theorem Ev.ite {α : Type} {c : Prop} [Decidable c] {g f : Nat → Option α} {r : α} (h1 : c → Ev g r) (h2 : ¬ c → Ev f r) : Ev (fun k => if c then g k else f k) r := by
  by_cases h : c
  · simp only [if_pos h]; exact h1 h
  · simp only [if_neg h]; exact h2 h
theorem Ev.pos {α : Type} {c : Prop} [Decidable c] {g f : Nat → Option α} {r : α} (h : c) (h1 : Ev g r) : Ev (fun k => if c then g k else f k) r := by
  simp only [if_pos h]; exact h1
theorem Ev.neg {α : Type} {c : Prop} [Decidable c] {g f : Nat → Option α} {r : α} (h : ¬ c) (h1 : Ev f r) : Ev (fun k => if c then g k else f k) r := by
  simp only [if_neg h]; exact h1
/-- A function without rounds. -/
theorem Ev.call {α β : Type} {o : Option α} {a : α} {f : Nat → α → Option β} {r : β} (h : o = some a) (k : Ev (fun n => f n a) r) : Ev (fun n => o.bind (f n)) r := by
  subst h; exact k
theorem wrap_id {n : Int} (h1 : -9223372036854775808 ≤ n) (h2 : n ≤ 9223372036854775807) : wrap64 n = n := IntWalk.wrap64_in n ⟨h1, h2⟩
end Go.Proofs.YtdphdheodloofaaDoor.Plain
namespace Go.Proofs.YtdphdheodloofaaDoor.Pure
open Go.RowKit Go.Proofs.YtdphdheodloofaaDoorW.PrintWords Go.Proofs.YtdphdheodloofaaDoor.Plain Go.Proofs.YtdphdheodloofaaDoor.A Go.Proofs.YtdphdheodloofaaDoorW.PrintMore
set_option linter.unusedVariables false
set_option linter.unusedSimpArgs false
theorem l6In_eq (a b c : Int) : spec_l6In.f a b c = some (decide (b ≤ a ∧ a ≤ c)) := by
  unfold spec_l6In.f
  by_cases h : a ≥ b
  · rw [if_pos h]; simp; omega
  · rw [if_neg h]; simp; omega
theorem within_eq (a b c : Int) : impl_within.f a b c = some (decide (b ≤ a ∧ a ≤ c)) := by
  unfold impl_within.f
  by_cases h : a ≥ b
  · rw [if_pos h]; simp; omega
  · rw [if_neg h]; simp; omega
theorem sDoor_eq (a p : Int) : spec_EndDoor.f a p = some (doorE a p) := by
  unfold spec_EndDoor.f doorE
  by_cases h : a = 9
  · rw [if_pos h, l6In_eq]; simp [h]
  · rw [if_neg h]; simp [h]
theorem iDoor_eq (a p : Int) : impl_EndDoor.f a p = some (doorE a p) := by
  unfold impl_EndDoor.f doorE
  by_cases h : a = 9
  · rw [if_pos h, within_eq]; simp [h]
  · rw [if_neg h]; simp [h]
theorem host_eq (p : Int) (a : Int) : spec_l1Host.f a p = some (decide (1 ≤ p ∧ p ≤ 9)) := by
  unfold spec_l1Host.f; rw [l6In_eq]; rfl
theorem sIn_eq (a p : Int) : spec_EndInside.f a p = some (inE a p) := by
  unfold spec_EndInside.f inE
  rw [l6In_eq, host_eq]
  by_cases h : 1 ≤ a ∧ a ≤ 3 <;> simp [h] <;> (try rw [eq_comm, decide_eq_false_iff_not]) <;> omega
theorem iIn_eq (a p : Int) : impl_EndInside.f a p = some (inE a p) := by
  unfold impl_EndInside.f inE
  rw [within_eq, within_eq]
  by_cases h : 1 ≤ a ∧ a ≤ 3 <;> simp [h] <;> (try rw [eq_comm, decide_eq_false_iff_not]) <;> omega
theorem sOut_eq (a p : Int) : spec_EndOutside.f a p = some (outE a p) := by
  unfold spec_EndOutside.f outE
  rw [l6In_eq, host_eq]
  by_cases h : 4 ≤ a ∧ a ≤ 6 <;> simp [h] <;> (try rw [eq_comm, decide_eq_false_iff_not]) <;> omega
theorem iOut_eq (a p : Int) : impl_EndOutside.f a p = some (outE a p) := by
  unfold impl_EndOutside.f outE
  rw [within_eq, within_eq]
  by_cases h : 4 ≤ a ∧ a ≤ 6 <;> simp [h] <;> (try rw [eq_comm, decide_eq_false_iff_not]) <;> omega
theorem digit_eq (c : Int) (h : 0 ≤ c ∧ c ≤ 255) : spec_l1Digit.f c = some (if 48 ≤ c ∧ c ≤ 57 then c - 48 else -1) := by
  unfold spec_l1Digit.f
  by_cases h1 : c < 48
  · rw [if_pos h1, if_neg (by omega)]
  · rw [if_neg h1]
    by_cases h2 : c > 57
    · rw [if_pos h2, if_neg (by omega)]
    · rw [if_neg h2, if_pos (by omega)]; congr 1; omega
theorem sAny_eq (a p : Int) : spec_l1Any.f a p = some (anyE a p) := by
  unfold spec_l1Any.f anyE
  rw [sIn_eq, sOut_eq, sDoor_eq]
  cases inE a p <;> cases outE a p <;> simp
theorem iAny_eq (a p : Int) : impl_End_any.f a p = some (anyE a p) := by
  unfold impl_End_any.f anyE
  rw [iIn_eq, iOut_eq, iDoor_eq]
  cases inE a p <;> cases outE a p <;> simp
theorem decDigits_dec : ∀ n : Nat, n < 100 → (Lib.decDigits n).map (fun b => (b.toNat : Int)) = dec (n : Int) := by decide +kernel
theorem bytesOf_list (l : List UInt8) : bytesOf (⟨l.toArray⟩ : ByteArray) = l.map (fun b => (b.toNat : Int)) := by
  simp [bytesOf]
theorem itoa_eq (a : Int) (h : 0 ≤ a ∧ a ≤ 99) : ∃ s, strconv_Itoa.f a = some s ∧ bytesOf s = dec a := by
  obtain ⟨n, rfl⟩ := Int.eq_ofNat_of_zero_le h.1
  refine ⟨_, by unfold strconv_Itoa.f; rw [if_pos h], ?_⟩
  rw [bytesOf_list]
  exact decDigits_dec n (by omega)
theorem dec_len2 (n : Int) : (dec n).length ≤ 2 := by unfold dec; split <;> simp
/-- EndText answers, with the end's text. -/
theorem iEndText (a p : Int) : ∃ s, impl_EndText.f a p = some s ∧ bytesOf s = endText a p := by
  unfold impl_EndText.f
  rw [iAny_eq]
  cases hc : anyE a p with
  | false =>
    refine ⟨⟨#[]⟩, by simp, ?_⟩
    rw [endText_none a p hc]; rfl
  | true =>
    have hr := (anyE_iff a p).1 hc
    obtain ⟨s, hs, hsb⟩ := itoa_eq a (by omega)
    obtain ⟨t, ht, htb⟩ := itoa_eq p (by omega)
    have ls : s.size ≤ 2 := by have := congrArg List.length hsb; rw [bytesOf_length] at this; have := dec_len2 a; omega
    have lt : t.size ≤ 2 := by have := congrArg List.length htb; rw [bytesOf_length] at this; have := dec_len2 p; omega
    refine ⟨(s ++ (⟨#[58]⟩ : ByteArray)) ++ t, ?_, ?_⟩
    · simp only [Option.bind_some, if_true, hs, ht]
      rw [if_pos (by omega), if_pos (by omega)]
    · have e1 : bytesOf (⟨#[58]⟩ : ByteArray) = [58] := rfl
      rw [bytesOf_append, bytesOf_append, hsb, htb, e1, endText, if_pos hc]
      simp
theorem indexByte_range (l : List UInt8) (c : UInt8) : -1 ≤ Lib.indexByte l c ∧ Lib.indexByte l c < l.length := by
  induction l with
  | nil => simp [Lib.indexByte]
  | cons b l ih =>
    unfold Lib.indexByte
    split
    · simp
    · split
      · simp only [List.length_cons]; omega
      · simp only [List.length_cons]; omega
theorem cut_some (s : ByteArray) (c : UInt8) (hs : s.size ≤ 140737488355328) : ∃ x y b, strings_Cut.f s (⟨#[c]⟩ : ByteArray) = some (x, y, b) ∧ x.size ≤ s.size ∧ y.size ≤ s.size := by
  have hr := indexByte_range s.data.toList c
  have hl : s.data.toList.length = s.size := by rw [Array.length_toList]; rfl
  have e1 : stringslite_Index.f s (⟨#[c]⟩ : ByteArray) = some (Lib.indexByte s.data.toList c) := by
    unfold stringslite_Index.f; rw [if_pos (show (⟨#[c]⟩ : ByteArray).size = 1 from rfl)]; rfl
  have e2 : ((⟨#[c]⟩ : ByteArray).size : Int) = 1 := rfl
  unfold strings_Cut.f stringslite_Cut.f
  rw [e1, e2]
  simp only [Option.bind_some]
  generalize Lib.indexByte s.data.toList c = i at hr
  by_cases h : i ≥ 0
  · have hw : wrap64 (i + 1) = i + 1 := wrap_id (by omega) (by omega)
    rw [hw, if_pos h, if_pos h, if_pos (by omega), if_pos (by omega), if_pos (by omega)]
    exact ⟨_, _, _, rfl, by rw [ByteArray.size_extract]; omega, by rw [ByteArray.size_extract]; omega⟩
  · rw [if_neg h]
    exact ⟨_, _, _, rfl, Nat.le_refl _, by show 0 ≤ s.size; omega⟩
theorem atoi_some (s : ByteArray) (hs : s.size ≤ 140737488355328) : ∃ v e, strconv_Atoi.f s = some (v, e) := by
  unfold strconv_Atoi.f
  rw [if_pos (by omega)]
  cases Lib.atoiAll s.data.toList <;> exact ⟨_, _, rfl⟩
/-- Of an end's text the end; else none, if any answer. -/
theorem iEndRead_none (s : ByteArray) (hs : s.size ≤ 140737488355328) : impl_EndRead.f s = some (0, 0, false) ∨ ∃ a p, anyE a p = true ∧ endText a p = bytesOf s ∧ impl_EndRead.f s = some (a, p, true) := by
  obtain ⟨x, y, b, e1, hx, hy⟩ := cut_some s 58 hs
  obtain ⟨v, e, e2⟩ := atoi_some x (by omega)
  obtain ⟨u, f, e3⟩ := atoi_some y (by omega)
  unfold impl_EndRead.f
  rw [e1]
  simp only [Option.bind_some, e2, e3]
  cases e with
  | some _ => left; rfl
  | none =>
    cases f with
    | some _ => left; rfl
    | none =>
      simp only [Option.isNone_none, if_true, iAny_eq, Option.bind_some]
      cases ha : anyE v u with
      | false => left; rfl
      | true =>
        obtain ⟨t, ht, htb⟩ := iEndText v u
        simp only [if_true, ht, Option.bind_some]
        by_cases hc : t.toList = s.toList
        · rw [if_pos hc]
          exact .inr ⟨v, u, ha, by rw [← htb]; exact bytesOf_toList.1 hc, rfl⟩
        · rw [if_neg hc]; left; rfl
def lit (l : List Int) : ByteArray := ⟨(l.map fun x => UInt8.ofNat x.toNat).toArray⟩
def goodCut (a p : Nat) : Bool := match strings_Cut.f (lit (endText a p)) (⟨#[58]⟩ : ByteArray) with
  | some (x, y, _) => (match strconv_Atoi.f x, strconv_Atoi.f y with | some (v, none), some (u, none) => decide (v = a ∧ u = p) | _, _ => false)
  | none => false
theorem good_all : ∀ a ∈ List.range 10, ∀ p ∈ List.range 18, anyE a p = true → goodCut a p = true := by decide +kernel
theorem lit_all : ∀ a ∈ List.range 10, ∀ p ∈ List.range 18, anyE a p = true → bytesOf (lit (endText a p)) = endText a p := by decide +kernel
theorem iEndRead_some (s : ByteArray) (a p : Int) (h : anyE a p = true) (hs : bytesOf s = endText a p) : impl_EndRead.f s = some (a, p, true) := by
  have hr := (anyE_iff a p).1 h
  obtain ⟨n, rfl⟩ := Int.eq_ofNat_of_zero_le (show 0 ≤ a by omega)
  obtain ⟨m, rfl⟩ := Int.eq_ofNat_of_zero_le (show 0 ≤ p by omega)
  have g := good_all n (List.mem_range.2 (by omega)) m (List.mem_range.2 (by omega)) h
  have e := lit_all n (List.mem_range.2 (by omega)) m (List.mem_range.2 (by omega)) h
  obtain rfl : s = lit (endText n m) := bytesOf_inj (hs.trans e.symm)
  unfold goodCut at g
  unfold impl_EndRead.f
  cases e1 : strings_Cut.f (lit (endText n m)) (⟨#[58]⟩ : ByteArray) with
  | none => rw [e1] at g; cases g
  | some r =>
    obtain ⟨x, y, b⟩ := r
    rw [e1] at g
    simp only [Option.bind_some]
    cases e2 : strconv_Atoi.f x with
    | none => simp only [e2] at g; cases g
    | some r2 =>
      obtain ⟨v, f⟩ := r2
      cases e3 : strconv_Atoi.f y with
      | none => simp only [e2, e3] at g; cases f <;> cases g
      | some r3 =>
        obtain ⟨u, f2⟩ := r3
        simp only [e2, e3] at g
        cases f with
        | some _ => cases g
        | none =>
          cases f2 with
          | some _ => cases g
          | none =>
            obtain ⟨rfl, rfl⟩ := of_decide_eq_true g
            obtain ⟨t, ht, htb⟩ := iEndText (n : Int) (m : Int)
            simp only [Option.bind_some, Option.isNone_none, if_true, iAny_eq, h, ht]
            rw [if_pos (bytesOf_toList.2 (htb.trans e.symm))]
/-- EndRead: the end whose text this is, or none. -/
theorem iEndRead (s : ByteArray) (hs : s.size ≤ 140737488355328) : impl_EndRead.f s = some (match endRead (bytesOf s) with | some (a, p) => (a, p, true) | none => (0, 0, false)) := by
  cases h : endRead (bytesOf s) with
  | some r =>
    obtain ⟨a, p⟩ := r
    obtain ⟨h1, h2⟩ := (endRead_iff _ a p).1 h
    exact iEndRead_some s a p h1 h2.symm
  | none =>
    rcases iEndRead_none s hs with h0 | ⟨a, p, h1, h2, _⟩
    · exact h0
    · rw [(endRead_iff _ a p).2 ⟨h1, h2⟩] at h; cases h
theorem bits_xor_i64_nat (a b : Nat) (ha : a < 9223372036854775808) (hb : b < 9223372036854775808) :
    Go.bits .xor .i64 (a : Int) (b : Int) = ((a ^^^ b : Nat) : Int) := by
  have hx : a ^^^ b < 2 ^ 63 := Nat.xor_lt_two_pow (by omega) (by omega)
  have h1 : (BitVec.ofInt 64 (a : Int)).toNat = a := by
    rw [BitVec.toNat_ofInt]; omega
  have h2 : (BitVec.ofInt 64 (b : Int)).toNat = b := by
    rw [BitVec.toNat_ofInt]; omega
  show IntKind.wrap .i64 ((BitVec.ofInt 64 (a : Int) ^^^ BitVec.ofInt 64 (b : Int)).toNat : Int) = _
  rw [BitVec.toNat_xor, h1, h2, IntWalk.i64_left, IntWalk.wrap64_in _ (by omega)]
theorem xor_nonneg (x y : Int) (h1 : 0 ≤ x) (h2 : x ≤ 9223372036854775807) (h3 : 0 ≤ y) (h4 : y ≤ 9223372036854775807) : 0 ≤ Go.bits .xor .i64 x y := by
  obtain ⟨a, rfl⟩ := Int.eq_ofNat_of_zero_le h1
  obtain ⟨b, rfl⟩ := Int.eq_ofNat_of_zero_le h3
  rw [bits_xor_i64_nat a b (by omega) (by omega)]
  omega
/-- A code: bytes. -/
def Code (b : List Int) : Prop := ∀ x ∈ b, 0 ≤ x ∧ x ≤ 255
theorem code_of {l : List Int} (h : ∀ x ∈ l, (Lit.int .u8 x).wf = true) : Code l := by
  intro x hx
  have := h x hx
  simp [Lit.wf, IntKind.min, IntKind.max, IntKind.bits, IntKind.signed] at this
  omega
theorem rd_code {b : List Int} (h : Code b) (i : Int) : 0 ≤ rd b i ∧ rd b i ≤ 255 := by
  unfold rd
  rw [List.getD_eq_getElem?_getD]
  cases e : b[i.toNat]? with
  | none => simp
  | some x => simpa using h x (List.mem_of_getElem? e)
theorem pick_val (b : List Int) (hb : Code b) (p : Int) (h0 : 0 ≤ p) (hp : p ≤ 1099511627776) (L : Int) (hL : 1 ≤ L) :
    0 ≤ Go.bits .xor .i64 (wrap64 ((wrap64 ((wrap64 ((wrap64 ((wrap64 (rd b (Int.tmod p L))) * 131)) + (wrap64 ((wrap64 (rd b (Int.tmod (wrap64 ((wrap64 (p * 7)) + 3)) L))) * 1117)))) + (wrap64 (p * 29)))) + (wrap64 ((wrap64 (Int.tdiv p L)) * 53)))) (wrap64 (Int.tdiv (wrap64 ((wrap64 ((wrap64 ((wrap64 ((wrap64 (rd b (Int.tmod p L))) * 131)) + (wrap64 ((wrap64 (rd b (Int.tmod (wrap64 ((wrap64 (p * 7)) + 3)) L))) * 1117)))) + (wrap64 (p * 29)))) + (wrap64 ((wrap64 (Int.tdiv p L)) * 53)))) 64)) := by
  have hA := rd_code hb (Int.tmod p L)
  have hB := rd_code hb (Int.tmod (wrap64 ((wrap64 (p * 7)) + 3)) L)
  generalize rd b (Int.tmod p L) = A at hA ⊢
  generalize rd b (Int.tmod (wrap64 ((wrap64 (p * 7)) + 3)) L) = B at hB ⊢
  have hq : 0 ≤ Int.tdiv p L ∧ Int.tdiv p L ≤ p := by
    rw [Int.tdiv_eq_ediv_of_nonneg h0]
    exact ⟨Int.ediv_nonneg h0 (by omega), Int.ediv_le_self _ h0⟩
  generalize Int.tdiv p L = q at hq ⊢
  have e : wrap64 ((wrap64 ((wrap64 ((wrap64 ((wrap64 A) * 131)) + (wrap64 ((wrap64 B) * 1117)))) + (wrap64 (p * 29)))) + (wrap64 ((wrap64 q) * 53))) = A * 131 + B * 1117 + p * 29 + q * 53 := by
    simp (disch := omega) only [wrap_id]
  rw [e]
  have hx : 0 ≤ A * 131 + B * 1117 + p * 29 + q * 53 ∧ A * 131 + B * 1117 + p * 29 + q * 53 ≤ 140737488355328 := by omega
  generalize A * 131 + B * 1117 + p * 29 + q * 53 = x at hx ⊢
  have hd : 0 ≤ Int.tdiv x 64 ∧ Int.tdiv x 64 ≤ x := by
    rw [Int.tdiv_eq_ediv_of_nonneg hx.1]; omega
  rw [wrap_id (by omega) (by omega)]
  exact xor_nonneg x _ hx.1 (by omega) hd.1 (by omega)
theorem tmod_in (x n : Int) (hx : 0 ≤ x) (hn : 1 ≤ n) : 0 ≤ Int.tmod x n ∧ Int.tmod x n < n := ⟨Int.tmod_nonneg n hx, Int.tmod_lt_of_pos x (by omega)⟩
/-- A pick: its number is below what is asked, and the place is one on. -/
theorem pick_ev (b : List Int) (hb : Code b) (p n : Int) (h0 : 0 ≤ p) (hp : p ≤ 1099511627776) (hl : b.length ≤ 1000000) :
    ∃ r, Ev (fun k => spec_l6Rd_pick.f k b p n) (r, p + 1) ∧ 0 ≤ r ∧ (1 ≤ n → r < n) ∧ (n < 1 → r = 0) := by
  unfold spec_l6Rd_pick.f
  rw [wrap_id (n := p + 1) (by omega) (by omega)]
  have hz : ∀ x : Bool, x = true → Ev (fun k => spec_l6Rd_pick.j0 k n x b (p + 1)) (0, p + 1) := fun x hx => Ev.step (f := fun _ => some (0, p + 1)) (fun k => by simp only [spec_l6Rd_pick.j0]; rw [if_pos hx]) (Ev.now _)
  by_cases hn : n < 1
  · exact ⟨0, Ev.pos hn (hz true rfl), by omega, by omega, fun _ => rfl⟩
  · by_cases he : (b.length : Int) = 0
    · exact ⟨0, Ev.neg hn (hz _ (beq_iff_eq.2 he)), by omega, by omega, fun _ => rfl⟩
    · have hw : wrap64 (p + 1 - 1) = p := by rw [wrap_id (by omega) (by omega)]; omega
      have hw7 : wrap64 (wrap64 (p * 7) + 3) = p * 7 + 3 := by rw [wrap_id (n := p * 7) (by omega) (by omega), wrap_id (by omega) (by omega)]
      by_cases hlt : p < (b.length : Int)
      · have hA := rd_code hb p
        refine ⟨Int.tmod (rd b p) n, Ev.neg hn (Ev.step (f := fun _ => some (Int.tmod (rd b p) n, p + 1)) (fun k => ?_) (Ev.now _)), (tmod_in _ _ hA.1 (by omega)).1, fun _ => (tmod_in _ _ hA.1 (by omega)).2, fun h => absurd h hn⟩
        simp only [spec_l6Rd_pick.j0, hw]
        rw [if_neg (by rw [beq_iff_eq]; exact he), if_pos hlt, if_pos h0, if_neg (by omega), wrap_id (by omega) (by omega)]
      · have hx := pick_val b hb p h0 hp (b.length : Int) (by omega)
        have t1 := tmod_in p (b.length : Int) h0 (by omega)
        have t2 := tmod_in (p * 7 + 3) (b.length : Int) (by omega) (by omega)
        refine ⟨_, Ev.neg hn (Ev.step (f := fun _ => some (_, p + 1)) (fun k => ?_) (Ev.now _)), (tmod_in _ n hx (by omega)).1, fun _ => (tmod_in _ n hx (by omega)).2, fun h => absurd h hn⟩
        simp only [spec_l6Rd_pick.j0, hw]
        rw [if_neg (by rw [beq_iff_eq]; exact he), if_neg hlt, if_neg he, if_pos t1.1, if_pos t1.2, hw7, if_pos t2.1, if_pos t2.2, if_neg (by omega)]
theorem open_eq (l : List Int) (hl : Code l) : ∃ b, spec_l6Open.f l = some (b, 0) ∧ Code b ∧ b.length ≤ 2000 := by
  unfold spec_l6Open.f
  by_cases h : (l.length : Int) > 2000
  · rw [if_pos h, if_pos (by omega)]
    exact ⟨_, rfl, fun x hx => hl x (List.mem_of_mem_take hx), by rw [List.length_take]; omega⟩
  · rw [if_neg h]; exact ⟨_, rfl, hl, by omega⟩
theorem of_ev (b : List Int) (hb : Code b) (p : Int) (h0 : 0 ≤ p) (hp : p ≤ 1099511627776) (hl : b.length ≤ 1000000) (l : List ByteArray) (hn : 1 ≤ l.length) :
    ∃ s, s ∈ l ∧ Ev (fun k => spec_l6Rd_of.f k b p l) (s, p + 1) := by
  obtain ⟨r, hr, r0, r1, _⟩ := pick_ev b hb p (l.length : Int) h0 hp hl
  have r2 := r1 (by omega)
  refine ⟨rdOf ByteArray.empty l r, ?_, ?_⟩
  · unfold rdOf
    rw [List.getD_eq_getElem?_getD, List.getElem?_eq_getElem (by omega)]
    exact List.getElem_mem _
  · unfold spec_l6Rd_of.f
    exact Ev.bind hr (Ev.pos r0 (Ev.pos r2 (Ev.now _)))
theorem end_ev (b : List Int) (hb : Code b) (p : Int) (h0 : 0 ≤ p) (hp : p ≤ 1099511000000) (hl : b.length ≤ 1000000) :
    ∃ a q p', Ev (fun k => spec_l71End.f k b p) (a, q, p') ∧ p ≤ p' ∧ p' ≤ p + 3 := by
  obtain ⟨r, hr, r0, _⟩ := pick_ev b hb p 12 h0 (by omega) hl
  have one : ∀ m : Int, ∃ x, Ev (fun k => spec_l6Rd_pick.f k b (p + 1) m) (x, p + 1 + 1) := fun m => by
    obtain ⟨x, hx, _⟩ := pick_ev b hb (p + 1) m (by omega) (by omega) hl
    exact ⟨x, hx⟩
  have two : ∀ m : Int, ∃ x, Ev (fun k => spec_l6Rd_pick.f k b (p + 1 + 1) m) (x, p + 1 + 1 + 1) := fun m => by
    obtain ⟨x, hx, _⟩ := pick_ev b hb (p + 1 + 1) m (by omega) (by omega) hl
    exact ⟨x, hx⟩
  have j2 : ∀ x : Bool, ∃ a q p', Ev (fun k => spec_l71End.j2 k x b (p + 1)) (a, q, p') ∧ p ≤ p' ∧ p' ≤ p + 3 := fun x => by
    cases x with
    | true =>
      obtain ⟨x, hx⟩ := one 8
      refine ⟨_, _, _, Ev.step (f := fun k => (spec_l6Rd_pick.f k b (p + 1) 8).bind fun bt => some (9, wrap64 (10 + bt.1), bt.2)) (fun k => by simp only [spec_l71End.j2]; rw [if_pos trivial]) (Ev.bind hx (Ev.now _)), ?_⟩
      simp only; omega
    | false =>
      obtain ⟨x, hx⟩ := one 12
      obtain ⟨y, hy⟩ := two 20
      refine ⟨_, _, _, Ev.step (f := fun k => (spec_l6Rd_pick.f k b (p + 1) 12).bind fun bt => ((spec_l6Rd_pick.f k b bt.2 20).bind fun ct => (some (bt.1, ct.1, ct.2)))) (fun k => by simp only [spec_l71End.j2]; rw [if_neg (by decide)]) (Ev.bind hx (Ev.bind hy (Ev.now _))), ?_⟩
      simp only; omega
  have j1 : ∀ (v : Int) (x : Bool), ∃ a q p', Ev (fun k => spec_l71End.j1 k v x b (p + 1)) (a, q, p') ∧ p ≤ p' ∧ p' ≤ p + 3 := fun v x => by
    cases x with
    | true =>
      obtain ⟨x, hx⟩ := one 3
      obtain ⟨y, hy⟩ := two 9
      refine ⟨_, _, _, Ev.step (f := fun k => (spec_l6Rd_pick.f k b (p + 1) 3).bind fun bt => ((spec_l6Rd_pick.f k b bt.2 9).bind fun ct => (some (wrap64 (4 + bt.1), wrap64 (1 + ct.1), ct.2)))) (fun k => by simp only [spec_l71End.j1]; rw [if_pos trivial]) (Ev.bind hx (Ev.bind hy (Ev.now _))), ?_⟩
      simp only; omega
    | false =>
      have s : ∀ k, spec_l71End.j1 (k + 1) v false b (p + 1) = if v = 7 then (spec_l71End.j2 k (v == 7) b (p + 1)) else (if v = 8 then (spec_l71End.j2 k (v == 8) b (p + 1)) else (if v = 9 then (spec_l71End.j2 k (v == 9) b (p + 1)) else (spec_l71End.j2 k (v == 10) b (p + 1)))) := fun k => by simp only [spec_l71End.j1]; rw [if_neg (by decide)]
      by_cases h7 : v = 7
      · obtain ⟨a, q, p', h, h'⟩ := j2 (v == 7)
        exact ⟨a, q, p', Ev.step s (Ev.pos h7 h), h'⟩
      · by_cases h8 : v = 8
        · obtain ⟨a, q, p', h, h'⟩ := j2 (v == 8)
          exact ⟨a, q, p', Ev.step s (Ev.neg h7 (Ev.pos h8 h)), h'⟩
        · by_cases h9 : v = 9
          · obtain ⟨a, q, p', h, h'⟩ := j2 (v == 9)
            exact ⟨a, q, p', Ev.step s (Ev.neg h7 (Ev.neg h8 (Ev.pos h9 h))), h'⟩
          · obtain ⟨a, q, p', h, h'⟩ := j2 (v == 10)
            exact ⟨a, q, p', Ev.step s (Ev.neg h7 (Ev.neg h8 (Ev.neg h9 h))), h'⟩
  have j0 : ∀ (v : Int) (x : Bool), ∃ a q p', Ev (fun k => spec_l71End.j0 k v x b (p + 1)) (a, q, p') ∧ p ≤ p' ∧ p' ≤ p + 3 := fun v x => by
    cases x with
    | true =>
      obtain ⟨x, hx⟩ := one 3
      obtain ⟨y, hy⟩ := two 9
      refine ⟨_, _, _, Ev.step (f := fun k => (spec_l6Rd_pick.f k b (p + 1) 3).bind fun bt => ((spec_l6Rd_pick.f k b bt.2 9).bind fun ct => (some (wrap64 (1 + bt.1), wrap64 (1 + ct.1), ct.2)))) (fun k => by simp only [spec_l71End.j0]; rw [if_pos trivial]) (Ev.bind hx (Ev.bind hy (Ev.now _))), ?_⟩
      simp only; omega
    | false =>
      have s : ∀ k, spec_l71End.j0 (k + 1) v false b (p + 1) = if v = 4 then (spec_l71End.j1 k v (v == 4) b (p + 1)) else (if v = 5 then (spec_l71End.j1 k v (v == 5) b (p + 1)) else (spec_l71End.j1 k v (v == 6) b (p + 1))) := fun k => by simp only [spec_l71End.j0]; rw [if_neg (by decide)]
      by_cases h7 : v = 4
      · obtain ⟨a, q, p', h, h'⟩ := j1 v (v == 4)
        exact ⟨a, q, p', Ev.step s (Ev.pos h7 h), h'⟩
      · by_cases h8 : v = 5
        · obtain ⟨a, q, p', h, h'⟩ := j1 v (v == 5)
          exact ⟨a, q, p', Ev.step s (Ev.neg h7 (Ev.pos h8 h)), h'⟩
        · obtain ⟨a, q, p', h, h'⟩ := j1 v (v == 6)
          exact ⟨a, q, p', Ev.step s (Ev.neg h7 (Ev.neg h8 h)), h'⟩
  unfold spec_l71End.f
  by_cases c0 : r = 0
  · obtain ⟨a, q, p', h, h'⟩ := j0 r (r == 0)
    exact ⟨a, q, p', Ev.bind hr (Ev.pos c0 h), h'⟩
  · by_cases c1 : r = 1
    · obtain ⟨a, q, p', h, h'⟩ := j0 r (r == 1)
      exact ⟨a, q, p', Ev.bind hr (Ev.neg c0 (Ev.pos c1 h)), h'⟩
    · by_cases c2 : r = 2
      · obtain ⟨a, q, p', h, h'⟩ := j0 r (r == 2)
        exact ⟨a, q, p', Ev.bind hr (Ev.neg c0 (Ev.neg c1 (Ev.pos c2 h))), h'⟩
      · obtain ⟨a, q, p', h, h'⟩ := j0 r (r == 3)
        exact ⟨a, q, p', Ev.bind hr (Ev.neg c0 (Ev.neg c1 (Ev.neg c2 h))), h'⟩
theorem bytesOf_nums (l : List Int) (h : Code l) : bytesOf (strOfNums l) = l := by
  unfold bytesOf
  rw [strOfNums_data, List.map_map]
  conv => rhs; rw [← List.map_id l]
  apply List.map_congr_left
  intro x hx
  have := h x hx
  show ((UInt8.ofNat x.toNat).toNat : Int) = x
  rw [UInt8.toNat_ofNat']
  omega
theorem dec_ev (n : Int) (h0 : 0 ≤ n) (h1 : n ≤ 99) : ∃ s, Ev (fun k => spec_l6Dec.f k n) s ∧ bytesOf s = dec n := by
  have base : ∀ m : Int, 0 ≤ m → m < 10 → Ev (fun k => spec_l6Dec.f k m) (strOfNums [48 + m]) := fun m m0 m1 => by
    refine Ev.step (f := fun _ => some (strOfNums [48 + m])) (fun k => ?_) (Ev.now _)
    simp only [spec_l6Dec.f]
    rw [if_neg (by omega), if_neg (by omega), if_pos m1, wrap_id (by omega) (by omega), Int.emod_eq_of_lt (by omega) (by omega)]
  by_cases h : n < 10
  · refine ⟨_, base n h0 h, ?_⟩
    rw [bytesOf_nums _ (by intro x hx; simp at hx; omega)]
    unfold dec; rw [if_pos h]
  · have e1 : Int.tdiv n 10 = n / 10 := Int.tdiv_eq_ediv_of_nonneg h0
    have e2 : Int.tmod n 10 = n % 10 := Int.tmod_eq_emod_of_nonneg h0
    refine ⟨strOfNums [48 + n / 10] ++ strOfNums [48 + n % 10], ?_, ?_⟩
    · refine Ev.step (f := fun k => (spec_l6Dec.f k (n / 10)).bind fun t => ((some (([48 + n % 10] : List Int) : List Int)).bind fun y => (if t.size + (strOfNums y).size ≤ 9223372036854775807 then (some (t ++ (strOfNums y))) else (none)))) (fun k => ?_) ?_
      · simp only [spec_l6Dec.f]
        rw [if_neg (by omega), if_neg (by omega), if_neg h, e1, e2, wrap_id (n := n / 10) (by omega) (by omega), wrap_id (n := 48 + n % 10) (by omega) (by omega), Int.emod_eq_of_lt (a := 48 + n % 10) (by omega) (by omega)]
      · refine Ev.bind (base (n / 10) (by omega) (by omega)) (Ev.call rfl (Ev.pos ?_ (Ev.now _)))
        rw [strOfNums_size, strOfNums_size]; simp
    · rw [bytesOf_append, bytesOf_nums _ (by intro x hx; simp at hx; omega), bytesOf_nums _ (by intro x hx; simp at hx; omega)]
      unfold dec; rw [if_neg h]; rfl
theorem dec_len (n : Int) : (dec n).length ≤ 2 := by unfold dec; split <;> simp
/-- The reference's text of an end. -/
theorem sEndText (a p : Int) : ∃ s, Ev (fun k => spec_EndText.f k a p) s ∧ bytesOf s = endText a p := by
  unfold spec_EndText.f
  cases h : anyE a p with
  | false =>
    refine ⟨⟨#[]⟩, Ev.call (sAny_eq a p) (Ev.neg (by rw [h]; decide) (Ev.now _)), ?_⟩
    rw [endText_none a p h]; rfl
  | true =>
    have hr : (1 ≤ a ∧ a ≤ 9) ∧ 1 ≤ p ∧ p ≤ 17 := by rcases (anyE_iff a p).1 h with h | h <;> omega
    obtain ⟨s, hs, es⟩ := dec_ev a (by omega) (by omega)
    obtain ⟨t, ht, et⟩ := dec_ev p (by omega) (by omega)
    have l1 : s.size ≤ 2 := by rw [← bytesOf_size, es]; exact dec_len a
    have l2 : t.size ≤ 2 := by rw [← bytesOf_size, et]; exact dec_len p
    refine ⟨(s ++ (⟨#[58]⟩ : ByteArray)) ++ t, Ev.call (sAny_eq a p) (Ev.pos h (Ev.bind hs (Ev.pos (by omega) (Ev.bind ht (Ev.pos (by omega) (Ev.now _)))))), ?_⟩
    rw [bytesOf_append, bytesOf_append, es, et]
    unfold endText
    rw [if_pos h, List.append_assoc]; rfl
theorem endText_len (a p : Int) : (endText a p).length ≤ 4 := by
  cases h : anyE a p with
  | false => rw [endText_none a p h]; simp
  | true =>
    rcases (anyE_iff a p).1 h with h2 | ⟨rfl, h2⟩
    · rw [endText_host a p h2]; simp
    · rw [endText_door p h2]; simp
/-- An end that is read: itself, or none. -/
def readE (l : List Int) : Int × Int × Bool := match endRead l with | some (a, p) => (a, p, true) | none => (0, 0, false)
/-- A figure's number, or -1. -/
def dig (c : Int) : Int := if 48 ≤ c ∧ c ≤ 57 then c - 48 else -1
theorem dig_range (c : Int) : -1 ≤ dig c ∧ dig c ≤ 9 := by unfold dig; split <;> omega
theorem readE_fin (s : ByteArray) (hn : bytesOf s ≠ []) (a p : Int) (hr : ∀ b q, anyE b q = true → endText b q = bytesOf s → b = a ∧ q = p) :
    Ev (fun k => (spec_EndText.f k a p).bind fun t => if t.toList = s.toList then some (a, p, true) else some (0, 0, false)) (readE (bytesOf s)) := by
  obtain ⟨t, ht, htb⟩ := sEndText a p
  refine Ev.bind ht ?_
  by_cases h : endText a p = bytesOf s
  · refine Ev.pos (bytesOf_toList.2 (htb.trans h)) ?_
    have ha : anyE a p = true := by
      cases hc : anyE a p with
      | true => rfl
      | false => exact absurd (h.symm.trans (endText_none a p hc)) hn
    have : readE (bytesOf s) = (a, p, true) := by unfold readE; rw [(endRead_iff _ a p).2 ⟨ha, h⟩]
    rw [this]; exact Ev.now _
  · refine Ev.neg (fun hc => h (htb.symm.trans (bytesOf_toList.1 hc))) ?_
    have : readE (bytesOf s) = (0, 0, false) := by
      unfold readE
      cases hc : endRead (bytesOf s) with
      | none => rfl
      | some r =>
        obtain ⟨b, q⟩ := r
        obtain ⟨h1, h2⟩ := (endRead_iff _ b q).1 hc
        obtain ⟨rfl, rfl⟩ := hr b q h1 h2
        exact absurd h2 h
    rw [this]; exact Ev.now _
theorem endText_lens (a p : Int) (h : anyE a p = true) : (endText a p).length = 3 ∨ (endText a p).length = 4 := by
  rcases (anyE_iff a p).1 h with h2 | ⟨rfl, h2⟩
  · rw [endText_host a p h2]; exact .inl rfl
  · rw [endText_door p h2]; exact .inr rfl
theorem readE_none (l : List Int) (h : ¬ (l.length = 3 ∨ l.length = 4)) : readE l = (0, 0, false) := by
  unfold readE
  cases hc : endRead l with
  | none => rfl
  | some r =>
    obtain ⟨b, q⟩ := r
    obtain ⟨h1, h2⟩ := (endRead_iff _ b q).1 hc
    rw [← h2] at h
    exact absurd (endText_lens b q h1) h
theorem bt_list (s : ByteArray) (i : Nat) : bt s (i : Int) = (bytesOf s).getD i 0 := by rw [bt_rd]; rfl
theorem sEndRead (s : ByteArray) : Ev (fun k => spec_EndRead.f k s) (readE (bytesOf s)) := by
  have hlen := bytesOf_length s
  unfold spec_EndRead.f
  refine Ev.call (l6In_eq _ _ _) ?_
  by_cases h : 3 ≤ (s.size : Int) ∧ (s.size : Int) ≤ 4
  · refine Ev.pos (by simpa using h) ?_
    refine Ev.pos (by omega) ?_
    refine Ev.call (digit_eq (bt s 0) (bt_range s 0)) ?_
    have d0 := dig_range (bt s 0)
    have d2 := dig_range (bt s 2)
    have d3 := dig_range (bt s 3)
    have one : ∀ (a acc i : Int), 0 ≤ i → i < (s.size : Int) → -1 ≤ acc → acc ≤ 9 → Ev (fun k => spec_EndRead.l0 k s (s.size : Int) (i + 1) a (10 * acc + dig (bt s i))) (readE (bytesOf s)) →
        Ev (fun k => spec_EndRead.l0 k s (s.size : Int) i a acc) (readE (bytesOf s)) := by
      intro a acc i h0 hi l1 l2 hk
      have hd := dig_range (bt s i)
      refine Ev.step (f := fun k => _) (fun k => by simp only [spec_EndRead.l0]; rfl) ?_
      refine Ev.pos hi ?_
      refine Ev.pos h0 ?_
      refine Ev.pos hi ?_
      refine Ev.call (digit_eq (bt s i) (bt_range s i)) ?_
      have e1 : wrap64 (i + 1) = i + 1 := wrap_id (by omega) (by omega)
      have e2 : wrap64 (wrap64 (10 * acc) + dig (bt s i)) = 10 * acc + dig (bt s i) := by
        rw [wrap_id (n := 10 * acc) (by omega) (by omega), wrap_id (by omega) (by omega)]
      show Ev (fun k => spec_EndRead.l0 k s (s.size : Int) (wrap64 (i + 1)) a (wrap64 (wrap64 (10 * acc) + dig (bt s i)))) _
      rw [e1, e2]; exact hk
    have last : ∀ (a p i : Int), ¬ i < (s.size : Int) → (∀ b q, anyE b q = true → endText b q = bytesOf s → b = a ∧ q = p) → Ev (fun k => spec_EndRead.l0 k s (s.size : Int) i a p) (readE (bytesOf s)) := by
      intro a p i hi hr
      refine Ev.step (f := fun k => _) (fun k => by simp only [spec_EndRead.l0]; rfl) ?_
      refine Ev.neg hi ?_
      exact readE_fin s (fun hc => by rw [hc] at hlen; simp at hlen; omega) a p hr
    show Ev (fun k => spec_EndRead.l0 k s (s.size : Int) 2 (dig (bt s 0)) 0) _
    have b0 := bt_list s 0
    have b2 := bt_list s 2
    have b3 := bt_list s 3
    refine one _ 0 2 (by omega) (by omega) (by omega) (by omega) ?_
    by_cases h3 : s.size = 3
    · refine last _ _ _ (by omega) ?_
      intro b q hb hq
      rcases (anyE_iff b q).1 hb with hc | ⟨rfl, hc⟩
      · rw [endText_host b q hc] at hq
        rw [← hq] at b0 b2
        have e0 : bt s 0 = 48 + b := b0
        have e2 : bt s 2 = 48 + q := b2
        rw [e0, e2]
        unfold dig
        rw [if_pos (by omega), if_pos (by omega)]
        omega
      · rw [endText_door q hc] at hq
        have := congrArg List.length hq
        simp at this; omega
    · refine one _ _ 3 (by omega) (by omega) (by omega) (by omega) ?_
      refine last _ _ _ (by omega) ?_
      intro b q hb hq
      rcases (anyE_iff b q).1 hb with hc | ⟨rfl, hc⟩
      · rw [endText_host b q hc] at hq
        have := congrArg List.length hq
        simp at this; omega
      · rw [endText_door q hc] at hq
        rw [← hq] at b0 b2 b3
        have e0 : bt s 0 = 57 := b0
        have e2 : bt s 2 = 49 := b2
        have e3 : bt s 3 = 38 + q := b3
        rw [e0, e2, e3]
        unfold dig
        rw [if_pos (by omega), if_pos (by omega), if_pos (by omega)]
        omega
  · refine Ev.neg (by simpa using h) ?_
    rw [readE_none _ (by rw [hlen]; omega)]
    exact Ev.now _
theorem drawEndRead_ev (l : List Int) (hc : Code l) : ∃ s, Ev (fun r => spec_DrawEndRead.f r l) s ∧ s.size ≤ 100 := by
  obtain ⟨b, eb, hb, hl⟩ := open_eq l hc
  obtain ⟨a, q, p1, e1, h1, h2⟩ := end_ev b hb 0 (by omega) (by omega) (by omega)
  obtain ⟨t, ht, et⟩ := sEndText a q
  have lt : t.size ≤ 4 := by rw [← bytesOf_size, et]; exact endText_len a q
  have hw : wrap64 ((t.size : Int) + 1) = (t.size : Int) + 1 := wrap_id (by omega) (by omega)
  obtain ⟨n, hn, n0, n1, _⟩ := pick_ev b hb p1 ((t.size : Int) + 1) (by omega) (by omega) (by omega)
  have n2 := n1 (by omega)
  obtain ⟨c, hcc, c0, _⟩ := pick_ev b hb (p1 + 1) 6 (by omega) (by omega) (by omega)
  by_cases e0 : c = 0
  · refine ⟨t.extract 0 n.toNat, ?_, by rw [ByteArray.size_extract]; omega⟩
    unfold spec_DrawEndRead.f
    refine Ev.call eb ?_
    refine Ev.bind e1 ?_
    refine Ev.bind ht ?_
    rw [hw]
    refine Ev.bind hn ?_
    refine Ev.bind hcc ?_
    refine Ev.pos e0 ?_
    refine Ev.pos n0 ?_
    refine Ev.pos (show n ≤ (t.size : Int) from by omega) ?_
    exact Ev.now _
  · by_cases e2 : c = 1
    · obtain ⟨x, hm, hx⟩ := of_ev b hb (p1 + 1 + 1) (by omega) (by omega) (by omega) [(⟨#[48]⟩ : ByteArray), (⟨#[58]⟩ : ByteArray), (⟨#[49]⟩ : ByteArray), (⟨#[32]⟩ : ByteArray)] (by decide)
      have hs : x.size ≤ 1 := by
        simp only [List.mem_cons, List.not_mem_nil, or_false] at hm
        rcases hm with rfl | rfl | rfl | rfl <;> decide
      refine ⟨((t.extract 0 n.toNat) ++ x) ++ (t.extract n.toNat t.size), ?_, ?_⟩
      · unfold spec_DrawEndRead.f
        refine Ev.call eb ?_
        refine Ev.bind e1 ?_
        refine Ev.bind ht ?_
        rw [hw]
        refine Ev.bind hn ?_
        refine Ev.bind hcc ?_
        refine Ev.neg e0 ?_
        refine Ev.pos e2 ?_
        refine Ev.pos n0 ?_
        refine Ev.pos (show n ≤ (t.size : Int) from by omega) ?_
        refine Ev.bind hx ?_
        refine Ev.pos (show n.toNat + x.size ≤ 9223372036854775807 from by omega) ?_
        refine Ev.pos (show n.toNat + x.size + (t.size - n.toNat) ≤ 9223372036854775807 from by omega) ?_
        exact Ev.now _
      · rw [ByteArray.size_append, ByteArray.size_append, ByteArray.size_extract, ByteArray.size_extract]; omega
    · refine ⟨t, ?_, by omega⟩
      unfold spec_DrawEndRead.f
      refine Ev.call eb ?_
      refine Ev.bind e1 ?_
      refine Ev.bind ht ?_
      rw [hw]
      refine Ev.bind hn ?_
      refine Ev.bind hcc ?_
      refine Ev.neg e0 ?_
      refine Ev.neg e2 ?_
      exact Ev.now _
theorem iReadE (s : ByteArray) (hs : s.size ≤ 140737488355328) : impl_EndRead.f s = some (readE (bytesOf s)) := iEndRead s hs
theorem readE_ok (l : List Int) (h : (readE l).2.2 = true) : anyE (readE l).1 (readE l).2.1 = true ∧ endText (readE l).1 (readE l).2.1 = l := by
  unfold readE at h ⊢
  cases hr : endRead l with
  | none => rw [hr] at h; cases h
  | some r => obtain ⟨a, p⟩ := r; exact (endRead_iff l a p).1 hr
theorem FnEndStrict : laws_FnEndStrict.Pure := by
  intro l hl hb hw
  apply Ev.rounds
  unfold laws_FnEndStrict.f
  refine Ev.ite (fun _ => Ev.now _) (fun hsmall => ?_)
  obtain ⟨s, e, hs⟩ := drawEndRead_ev l (code_of hw)
  refine Ev.bind e ?_
  refine Ev.bind (sEndRead s) ?_
  refine Ev.call (iReadE s (by omega)) ?_
  have hok := readE_ok (bytesOf s)
  generalize hr : readE (bytesOf s) = r at hok ⊢
  obtain ⟨a, q, b⟩ := r
  refine Ev.neg (by simp) ?_
  refine Ev.neg (by simp) ?_
  refine Ev.step (f := fun r => _) (fun r => by simp only [laws_FnEndStrict.j0]; rfl) ?_
  cases b with
  | false =>
    refine Ev.pos rfl ?_
    refine Ev.pos rfl ?_
    simp only [BEq.rfl, Bool.and_self]
    exact Ev.now _
  | true =>
    obtain ⟨h1, h2⟩ := hok rfl
    obtain ⟨t, ht, et⟩ := iEndText a q
    refine Ev.neg (by decide) ?_
    refine Ev.call ht ?_
    refine Ev.pos (bytesOf_toList.2 (et.trans h2)) ?_
    refine Ev.call (iIn_eq a q) ?_
    refine Ev.ite (fun _ => Ev.now _) (fun g1 => ?_)
    refine Ev.call (iOut_eq a q) ?_
    refine Ev.ite (fun _ => Ev.now _) (fun g2 => ?_)
    refine Ev.call (iDoor_eq a q) ?_
    have : doorE a q = true := by
      have h3 : (inE a q || outE a q || doorE a q) = true := h1
      simp only [Bool.or_eq_true] at h3
      rcases h3 with (h3 | h3) | h3
      · exact absurd h3 g1
      · exact absurd h3 g2
      · exact h3
    rw [this]; exact Ev.now _
end Go.Proofs.YtdphdheodloofaaDoor.Pure
