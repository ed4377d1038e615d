/- What the program's functions that write and read ends come to. -/
import Derived.Test.YtdphdheodloofaaDoorAx4
import Derived.Test.YtdphdheodloofaaDoorAx18
import Derived.Test.YtdphdheodloofaaDoorEvEnds
import Derived.Test.YtdphdheodloofaaDoorEvPkt
namespace Go.Proofs.YtdphdheodloofaaDoor.Pure
open Go.RowKit Go.Proofs.YtdphdheodloofaaDoorW.PrintWords Go.Proofs.YtdphdheodloofaaDoorW.PrintMore Go.Proofs.YtdphdheodloofaaDoor.Plain Go.Proofs.YtdphdheodloofaaDoor.A
set_option linter.unusedVariables false
set_option linter.unusedSimpArgs false

theorem decDigits_dec : ∀ n : Nat, n < 100 → (Lib.decDigits n).map (fun b => (b.toNat : Int)) = dec (n : Int) := by decide +kernel
theorem bytesOf_list (l : List UInt8) : bytesOf (⟨l.toArray⟩ : ByteArray) = l.map (fun b => (b.toNat : Int)) := by
  simp [bytesOf]
theorem itoa_eq (a : Int) (h : 0 ≤ a ∧ a ≤ 99) : ∃ s, strconv_Itoa.f a = some s ∧ bytesOf s = dec a := by
  obtain ⟨n, rfl⟩ := Int.eq_ofNat_of_zero_le h.1
  refine ⟨_, by unfold strconv_Itoa.f; rw [if_pos h], ?_⟩
  rw [bytesOf_list]
  exact decDigits_dec n (by omega)
theorem dec_len2 (n : Int) : (dec n).length ≤ 2 := by unfold dec; split <;> simp
/-- EndText answers, with the end's text. -/
theorem iEndText (a p : Int) : ∃ s, impl_EndText.f a p = some s ∧ bytesOf s = endText a p := by
  unfold impl_EndText.f
  rw [iAny_eq]
  cases hc : anyE a p with
  | false =>
    refine ⟨⟨#[]⟩, by simp, ?_⟩
    rw [endText_none a p hc]; rfl
  | true =>
    have hr := (anyE_iff a p).1 hc
    obtain ⟨s, hs, hsb⟩ := itoa_eq a (by omega)
    obtain ⟨t, ht, htb⟩ := itoa_eq p (by omega)
    have ls : s.size ≤ 2 := by have := congrArg List.length hsb; rw [bytesOf_length] at this; have := dec_len2 a; omega
    have lt : t.size ≤ 2 := by have := congrArg List.length htb; rw [bytesOf_length] at this; have := dec_len2 p; omega
    refine ⟨(s ++ (⟨#[58]⟩ : ByteArray)) ++ t, ?_, ?_⟩
    · simp only [Option.bind_some, if_true, hs, ht]
      rw [if_pos (by omega), if_pos (by omega)]
    · have e1 : bytesOf (⟨#[58]⟩ : ByteArray) = [58] := rfl
      rw [bytesOf_append, bytesOf_append, hsb, htb, e1, endText, if_pos hc]
      simp
end Go.Proofs.YtdphdheodloofaaDoor.Pure
