/- What the printed functions that draw packets come to: some packet, with a short text. -/
import Derived.Test.YtdphdheodloofaaDoorAx10
import Derived.Test.YtdphdheodloofaaDoorEvDraw2
namespace Go.Proofs.YtdphdheodloofaaDoor.Pure
open Go.RowKit Go.Proofs.YtdphdheodloofaaDoorW.PrintWords Go.Proofs.YtdphdheodloofaaDoorW.PrintMore Go.Proofs.YtdphdheodloofaaDoor.Plain Go.Proofs.YtdphdheodloofaaDoor.A
set_option linter.unusedVariables false
set_option linter.unusedSimpArgs false

theorem pktJ_ev (b : List Int) (hb : Code b) (p : Int) (h0 : 0 ≤ p) (hp : p ≤ 1099500000000) (hl : b.length ≤ 1000000) (k a q a' q' n : Int) (s : ByteArray) (hs : s.size ≤ 100) :
    ∃ k2 n2 s2 p', Ev (fun r => spec_l71Pkt.j0 r b p k a q a' q' n s) (k2, a, q, a', q', n2, s2, p') ∧ s2.size ≤ 100 ∧ p ≤ p' ∧ p' ≤ p + 2 := by
  obtain ⟨r, hr, r0, _⟩ := pick_ev b hb p 20 h0 (by omega) hl
  have st : ∀ f : Nat → Option (Int × Int × Int × Int × Int × Int × ByteArray × Int), ∀ z, (∀ m, spec_l71Pkt.j0 (m + 1) b p k a q a' q' n s = f m) → Ev f z → Ev (fun r => spec_l71Pkt.j0 r b p k a q a' q' n s) z := fun f z h1 h2 => Ev.step h1 h2
  by_cases c0 : r = 0
  · obtain ⟨x, hx, _⟩ := pick_ev b hb (p + 1) 4 (by omega) (by omega) hl
    refine ⟨x, n, s, p + 1 + 1, ?_, hs, by omega, by omega⟩
    refine st _ _ (fun m => by simp only [spec_l71Pkt.j0]; rfl) ?_
    refine Ev.bind hr ?_
    refine Ev.pos c0 ?_
    exact Ev.bind hx (Ev.now _)
  · by_cases c1 : r = 1
    · obtain ⟨x, hx, x0, x1, _⟩ := pick_ev b hb (p + 1) 3 (by omega) (by omega) hl
      have x2 := x1 (by omega)
      refine ⟨k, rd [(-1), 99, 100] x, s, p + 1 + 1, ?_, hs, by omega, by omega⟩
      refine st _ _ (fun m => by simp only [spec_l71Pkt.j0]; rfl) ?_
      refine Ev.bind hr ?_
      refine Ev.neg c0 ?_
      refine Ev.pos c1 ?_
      refine Ev.call rfl ?_
      refine Ev.bind hx ?_
      refine Ev.pos x0 ?_
      refine Ev.pos (by simpa using x2) ?_
      exact Ev.now _
    · by_cases c2 : r = 2
      · obtain ⟨x, hx, ex⟩ := of_ev b hb (p + 1) (by omega) (by omega) hl [(⟨#[]⟩ : ByteArray), (⟨#[97, 32, 98]⟩ : ByteArray), (⟨#[120]⟩ : ByteArray)] (by simp)
        refine ⟨k, n, x, p + 1 + 1, ?_, ?_, by omega, by omega⟩
        · refine st _ _ (fun m => by simp only [spec_l71Pkt.j0]; rfl) ?_
          refine Ev.bind hr ?_
          refine Ev.neg c0 ?_
          refine Ev.neg c1 ?_
          refine Ev.pos c2 ?_
          exact Ev.bind ex (Ev.now _)
        · simp only [List.mem_cons, List.not_mem_nil, or_false] at hx
          rcases hx with rfl | rfl | rfl <;> decide
      · refine ⟨k, n, s, p + 1, ?_, hs, by omega, by omega⟩
        refine st _ _ (fun m => by simp only [spec_l71Pkt.j0]; rfl) ?_
        refine Ev.bind hr ?_
        refine Ev.neg c0 ?_
        refine Ev.neg c1 ?_
        refine Ev.neg c2 ?_
        exact Ev.now _
theorem pkt_ev (b : List Int) (hb : Code b) (p : Int) (h0 : 0 ≤ p) (hp : p ≤ 1099400000000) (hl : b.length ≤ 1000000) :
    ∃ k a q a' q' n s p', Ev (fun r => spec_l71Pkt.f r b p) (k, a, q, a', q', n, s, p') ∧ s.size ≤ 100 ∧ p ≤ p' ∧ p' ≤ p + 50 := by
  obtain ⟨r, hr, r0, _⟩ := pick_ev b hb p 2 h0 (by omega) hl
  obtain ⟨a, q, p1, e1, h1, h1'⟩ := end_ev b hb (p + 1) (by omega) (by omega) hl
  obtain ⟨a', q', p2, e2, h2, h2'⟩ := end_ev b hb p1 (by omega) (by omega) hl
  obtain ⟨n, hn, n0, _⟩ := pick_ev b hb p2 20 (by omega) (by omega) hl
  by_cases c : wrap64 (1 + r) = 1
  · obtain ⟨t, p3, ht, hs, h3, h3'⟩ := text_ev b hb (p2 + 1) (by omega) (by omega) hl 16 (by omega) (by omega)
    have ea : (⟨#[97]⟩ : ByteArray).size = 1 := rfl
    obtain ⟨k2, n2, s2, p', hj, g1, g2, g3⟩ := pktJ_ev b hb p3 (by omega) (by omega) hl (wrap64 (1 + r)) a q a' q' n (t ++ (⟨#[97]⟩ : ByteArray)) (by rw [ByteArray.size_append, ea]; omega)
    refine ⟨k2, a, q, a', q', n2, s2, p', ?_, g1, by omega, by omega⟩
    unfold spec_l71Pkt.f
    refine Ev.bind hr ?_
    refine Ev.bind e1 ?_
    refine Ev.bind e2 ?_
    refine Ev.bind hn ?_
    refine Ev.pos c ?_
    refine Ev.bind ht ?_
    refine Ev.pos (show t.size + 1 ≤ 9223372036854775807 from by omega) ?_
    exact hj
  · obtain ⟨k2, n2, s2, p', hj, g1, g2, g3⟩ := pktJ_ev b hb (p2 + 1) (by omega) (by omega) hl (wrap64 (1 + r)) a q a' q' n ⟨#[]⟩ (by decide)
    refine ⟨k2, a, q, a', q', n2, s2, p', ?_, g1, by omega, by omega⟩
    unfold spec_l71Pkt.f
    refine Ev.bind hr ?_
    refine Ev.bind e1 ?_
    refine Ev.bind e2 ?_
    refine Ev.bind hn ?_
    refine Ev.neg c ?_
    exact hj
theorem drawPktOk_ev (l : List Int) (hc : Code l) : ∃ k a q a' q' n s, Ev (fun r => spec_DrawPktOk.f r l) (k, a, q, a', q', n, s) ∧ s.size ≤ 100 := by
  obtain ⟨b, eb, hb, hl⟩ := open_eq l hc
  obtain ⟨k, a, q, a', q', n, s, p1, e1, h1, h2, h3⟩ := pkt_ev b hb 0 (by omega) (by omega) (by omega)
  obtain ⟨r, hr, r0, _⟩ := pick_ev b hb p1 4 (by omega) (by omega) (by omega)
  by_cases c : r = 0
  · obtain ⟨x, hx, _⟩ := pick_ev b hb (p1 + 1) 2 (by omega) (by omega) (by omega)
    refine ⟨wrap64 (1 + x), a, q, a', q', n, s, ?_, h1⟩
    unfold spec_DrawPktOk.f
    refine Ev.call eb ?_
    refine Ev.bind e1 ?_
    refine Ev.bind hr ?_
    refine Ev.pos c ?_
    exact Ev.bind hx (Ev.now _)
  · refine ⟨k, a, q, a', q', n, s, ?_, h1⟩
    unfold spec_DrawPktOk.f
    refine Ev.call eb ?_
    refine Ev.bind e1 ?_
    refine Ev.bind hr ?_
    refine Ev.neg c ?_
    exact Ev.now _

end Go.Proofs.YtdphdheodloofaaDoor.Pure
