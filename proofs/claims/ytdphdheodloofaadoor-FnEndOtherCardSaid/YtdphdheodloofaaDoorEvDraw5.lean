/- What the printed functions that draw ends, texts of ends, and packets come to. -/
import Derived.Test.YtdphdheodloofaaDoorAx3
import Derived.Test.YtdphdheodloofaaDoorAx8
import Derived.Test.YtdphdheodloofaaDoorAx11
import Derived.Test.YtdphdheodloofaaDoorAx16
import Derived.Test.YtdphdheodloofaaDoorAx22
import Derived.Test.YtdphdheodloofaaDoorEvDraw4
import Derived.Test.YtdphdheodloofaaDoorEvEndText
namespace Go.Proofs.YtdphdheodloofaaDoor.Pure
open Go.RowKit Go.Proofs.YtdphdheodloofaaDoorW.PrintWords Go.Proofs.YtdphdheodloofaaDoorW.PrintMore Go.Proofs.YtdphdheodloofaaDoor.Plain Go.Proofs.YtdphdheodloofaaDoor.A
set_option linter.unusedVariables false
set_option linter.unusedSimpArgs false
theorem endText_isEmpty (a q : Int) : decide (endText a q = []) = !anyE a q := by
  cases h : anyE a q with
  | false => rw [endText_none a q h]; rfl
  | true =>
    have : endText a q ≠ [] := fun e => by rw [endText_nil, h] at e; cases e
    rw [decide_eq_false this]; rfl
theorem beq_bytes (s t : ByteArray) : (s.toList == t.toList) = (bytesOf s == bytesOf t) := by
  rw [Bool.eq_iff_iff, beq_iff_eq, beq_iff_eq, bytesOf_toList]
theorem drawEndInside_ev (l : List Int) (hc : Code l) : ∃ a q, Ev (fun r => spec_DrawEndInside.f r l) (a, q) := by
  obtain ⟨b, eb, hb, hl⟩ := open_eq l hc
  obtain ⟨a, q, p1, e1, h1, h2⟩ := end_ev b hb 0 (by omega) (by omega) (by omega)
  refine ⟨a, q, ?_⟩
  unfold spec_DrawEndInside.f
  exact Ev.call eb (Ev.bind e1 (Ev.now _))
theorem drawEndText_ev (l : List Int) (hc : Code l) : ∃ a q, Ev (fun r => spec_DrawEndText.f r l) (a, q) := by
  obtain ⟨b, eb, hb, hl⟩ := open_eq l hc
  obtain ⟨a, q, p1, e1, h1, h2⟩ := end_ev b hb 0 (by omega) (by omega) (by omega)
  refine ⟨a, q, ?_⟩
  unfold spec_DrawEndText.f
  exact Ev.call eb (Ev.bind e1 (Ev.now _))
theorem drawPktText_ev (l : List Int) (hc : Code l) : ∃ k a q a' q' n s, Ev (fun r => spec_DrawPktText.f r l) (k, a, q, a', q', n, s) ∧ s.size ≤ 100 := by
  obtain ⟨b, eb, hb, hl⟩ := open_eq l hc
  obtain ⟨k, a, q, a', q', n, s, p1, e1, h1, h2, h3⟩ := pkt_ev b hb 0 (by omega) (by omega) (by omega)
  refine ⟨k, a, q, a', q', n, s, ?_, h1⟩
  unfold spec_DrawPktText.f
  exact Ev.call eb (Ev.bind e1 (Ev.now _))
theorem drawEndRead_ev (l : List Int) (hc : Code l) : ∃ s, Ev (fun r => spec_DrawEndRead.f r l) s ∧ s.size ≤ 100 := by
  obtain ⟨b, eb, hb, hl⟩ := open_eq l hc
  obtain ⟨a, q, p1, e1, h1, h2⟩ := end_ev b hb 0 (by omega) (by omega) (by omega)
  obtain ⟨t, ht, et⟩ := sEndText a q
  have lt : t.size ≤ 4 := by rw [← bytesOf_size, et]; exact endText_len a q
  have hw : wrap64 ((t.size : Int) + 1) = (t.size : Int) + 1 := wrap_id (by omega) (by omega)
  obtain ⟨n, hn, n0, n1, _⟩ := pick_ev b hb p1 ((t.size : Int) + 1) (by omega) (by omega) (by omega)
  have n2 := n1 (by omega)
  obtain ⟨c, hcc, c0, _⟩ := pick_ev b hb (p1 + 1) 6 (by omega) (by omega) (by omega)
  by_cases e0 : c = 0
  · refine ⟨t.extract 0 n.toNat, ?_, by rw [ByteArray.size_extract]; omega⟩
    unfold spec_DrawEndRead.f
    refine Ev.call eb ?_
    refine Ev.bind e1 ?_
    refine Ev.bind ht ?_
    rw [hw]
    refine Ev.bind hn ?_
    refine Ev.bind hcc ?_
    refine Ev.pos e0 ?_
    refine Ev.pos n0 ?_
    refine Ev.pos (show n ≤ (t.size : Int) from by omega) ?_
    exact Ev.now _
  · by_cases e2 : c = 1
    · obtain ⟨x, hm, hx⟩ := of_ev b hb (p1 + 1 + 1) (by omega) (by omega) (by omega) [(⟨#[48]⟩ : ByteArray), (⟨#[58]⟩ : ByteArray), (⟨#[49]⟩ : ByteArray), (⟨#[32]⟩ : ByteArray)] (by decide)
      have hs : x.size ≤ 1 := by
        simp only [List.mem_cons, List.not_mem_nil, or_false] at hm
        rcases hm with rfl | rfl | rfl | rfl <;> decide
      refine ⟨((t.extract 0 n.toNat) ++ x) ++ (t.extract n.toNat t.size), ?_, ?_⟩
      · unfold spec_DrawEndRead.f
        refine Ev.call eb ?_
        refine Ev.bind e1 ?_
        refine Ev.bind ht ?_
        rw [hw]
        refine Ev.bind hn ?_
        refine Ev.bind hcc ?_
        refine Ev.neg e0 ?_
        refine Ev.pos e2 ?_
        refine Ev.pos n0 ?_
        refine Ev.pos (show n ≤ (t.size : Int) from by omega) ?_
        refine Ev.bind hx ?_
        refine Ev.pos (show n.toNat + x.size ≤ 9223372036854775807 from by omega) ?_
        refine Ev.pos (show n.toNat + x.size + (t.size - n.toNat) ≤ 9223372036854775807 from by omega) ?_
        exact Ev.now _
      · rw [ByteArray.size_append, ByteArray.size_append, ByteArray.size_extract, ByteArray.size_extract]; omega
    · refine ⟨t, ?_, by omega⟩
      unfold spec_DrawEndRead.f
      refine Ev.call eb ?_
      refine Ev.bind e1 ?_
      refine Ev.bind ht ?_
      rw [hw]
      refine Ev.bind hn ?_
      refine Ev.bind hcc ?_
      refine Ev.neg e0 ?_
      refine Ev.neg e2 ?_
      exact Ev.now _
theorem lzAny_eq (a q : Int) : laws_lzAny.f a q = some (anyE a q) := by
  obtain ⟨t, ht, et⟩ := iEndText a q
  unfold laws_lzAny.f
  rw [ht]
  simp only [Option.bind_some, toList_emp, et, endText_isEmpty, Bool.not_not]
end Go.Proofs.YtdphdheodloofaaDoor.Pure
