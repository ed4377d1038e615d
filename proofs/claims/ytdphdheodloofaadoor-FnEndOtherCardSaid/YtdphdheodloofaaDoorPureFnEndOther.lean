/- The law on two ends, as plain Lean: two ends have two texts, of three bytes or four. -/
import Derived.Test.YtdphdheodloofaaDoorAx9
import Derived.Test.YtdphdheodloofaaDoorEvEndText
import Derived.Test.YtdphdheodloofaaDoorEvSpecRead
import Derived.Test.YtdphdheodloofaaDoorEvDraw5
namespace Go.Proofs.YtdphdheodloofaaDoor.Pure
open Go.RowKit Go.Proofs.YtdphdheodloofaaDoorW.PrintWords Go.Proofs.YtdphdheodloofaaDoor.Plain Go.Proofs.YtdphdheodloofaaDoor.A
theorem FnEndOther : laws_FnEndOther.Pure := by
  intro l m hl hb hw hl2 hb2 hw2
  apply Ev.rounds
  have main : ∀ x : Bool, Ev (fun r => laws_FnEndOther.j0 r l m x) true := by
    intro x
    refine Ev.step (f := fun r => _) (fun r => by simp only [laws_FnEndOther.j0]; rfl) ?_
    refine Ev.ite (fun _ => Ev.now _) (fun hsmall => ?_)
    obtain ⟨a, q, e⟩ := drawEndText_ev l (code_of hw)
    obtain ⟨b, p, e'⟩ := drawEndInside_ev m (code_of hw2)
    obtain ⟨s, hs, es⟩ := iEndText a q
    obtain ⟨t, ht, et⟩ := iEndText b p
    obtain ⟨u, hu, eu⟩ := sEndText a q
    have hsu : s = u := bytesOf_inj (es.trans eu.symm)
    subst hsu
    refine Ev.bind e ?_
    refine Ev.bind e' ?_
    refine Ev.call hs ?_
    refine Ev.call ht ?_
    refine Ev.bind hu ?_
    refine Ev.pos rfl ?_
    have same : Ev (fun r => (spec_EndText.f r a q).bind fun t => some (s.toList == t.toList)) true := by
      refine Ev.bind hu ?_
      rw [BEq.rfl]; exact Ev.now _
    refine Ev.ite (fun _ => same) (fun h1 => ?_)
    refine Ev.ite (fun _ => same) (fun h2 => ?_)
    rw [toList_nil, es, endText_nil] at h1
    rw [toList_nil, et, endText_nil] at h2
    have ha : anyE a q = true := by simpa using h1
    have hb : anyE b p = true := by simpa using h2
    have ls := bytesOf_size s
    have lt := bytesOf_size t
    have l1 := endText_lens a q ha
    have l2 := endText_lens b p hb
    rw [es] at ls
    rw [et] at lt
    have key : (s.toList == t.toList) = (a == b && (q == p)) := by
      rw [beq_bytes, es, et, Bool.eq_iff_iff, beq_iff_eq, Bool.and_eq_true, beq_iff_eq, beq_iff_eq]
      constructor
      · exact endText_inj ha hb
      · rintro ⟨rfl, rfl⟩; rfl
    refine Ev.pos (by rw [key]; simp) ?_
    refine Ev.pos (by omega) ?_
    rw [decide_eq_true (by omega)]
    exact Ev.now _
  unfold laws_FnEndOther.f
  exact Ev.ite (fun _ => main _) (fun _ => main _)
end Go.Proofs.YtdphdheodloofaaDoor.Pure
