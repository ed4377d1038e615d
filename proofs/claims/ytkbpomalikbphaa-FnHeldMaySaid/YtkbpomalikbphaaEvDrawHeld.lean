/- What the printed function that draws a text with an end of its own comes to: some text, short enough. -/
import Derived.Test.YtkbpomalikbphaaAx3
import Derived.Test.YtkbpomalikbphaaEvDraw2
namespace Go.Proofs.Ytkbpomalikbphaa.Pure
open Go.RowKit Go.Proofs.YtkbpomalikbphaaW.PrintWords Go.Proofs.YtkbpomalikbphaaW.PrintMore Go.Proofs.Ytkbpomalikbphaa.Plain Go.Proofs.Ytkbpomalikbphaa.A
theorem drawTextHeld_ev (l : List Int) (hc : Code l) : ∃ s, Ev (fun r => spec_DrawTextHeld.f r l) s ∧ s.size ≤ 100 := by
  obtain ⟨b, eb, hb, hl⟩ := open_eq l hc
  obtain ⟨t, p1, e1, h1, h2, h3⟩ := text_ev b hb 0 (by omega) (by omega) (by omega) 24 (by omega) (by omega)
  obtain ⟨x, hm, hx⟩ := of_ev b hb p1 (by omega) (by omega) (by omega) [(⟨#[]⟩ : ByteArray), (⟨#[64]⟩ : ByteArray), (⟨#[64, 49]⟩ : ByteArray), (⟨#[64, 50, 58]⟩ : ByteArray), (⟨#[64, 57, 58, 49]⟩ : ByteArray), (⟨#[64, 57, 58, 49, 50]⟩ : ByteArray), (⟨#[64, 49, 58, 53]⟩ : ByteArray), (⟨#[64, 48]⟩ : ByteArray), (⟨#[64, 49, 58, 48]⟩ : ByteArray), (⟨#[64, 49, 58, 49, 50, 51]⟩ : ByteArray), (⟨#[64, 64]⟩ : ByteArray), (⟨#[64, 57, 58, 49, 120]⟩ : ByteArray)] (by decide)
  have hs : x.size ≤ 10 := by
    simp only [List.mem_cons, List.not_mem_nil, or_false] at hm
    rcases hm with rfl | rfl | rfl | rfl | rfl | rfl | rfl | rfl | rfl | rfl | rfl | rfl <;> decide
  refine ⟨t ++ x, ?_, by rw [ByteArray.size_append]; omega⟩
  unfold spec_DrawTextHeld.f
  exact Ev.call eb (Ev.bind e1 (Ev.bind hx (Ev.pos (show t.size + x.size ≤ 9223372036854775807 from by omega) (Ev.now _))))
end Go.Proofs.Ytkbpomalikbphaa.Pure
