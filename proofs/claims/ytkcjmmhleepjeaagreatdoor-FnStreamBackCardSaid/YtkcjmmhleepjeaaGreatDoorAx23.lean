-- Printed by myprint.py (wip/tools) out of the translation. Not trusted: Lean checks it.
import Derived.Test.YtkcjmmhleepjeaaGreatDoorAx0
import Derived.Test.YtkcjmmhleepjeaaGreatDoorAx12
namespace Go.Proofs.YtkcjmmhleepjeaaGreatDoor.A
open Go.RowKit Go.Proofs.YtkcjmmhleepjeaaGreatDoorW.PrintWords Go.Proofs.YtkcjmmhleepjeaaGreatDoorW.PrintLast Go.Proofs.YtkcjmmhleepjeaaGreatDoorW.PrintMore
attribute [local go_sem] max2_int min2_int max_two min_two max_three min_three max_four min_four
set_option linter.unusedVariables false
set_option linter.unusedSimpArgs false

/-! ### impl_TextHeld: function 16 -/
def impl_TextHeld.f (k : Nat) (a0 : ByteArray) : Option (Int) := (impl_TextOk.f a0).bind fun t547 => (if t547 = true then ((impl_held.f k a0).bind fun t548 => (some t548)) else (some 0))
theorem impl_TextHeld.mono : ∀ a0 k, LeO (impl_TextHeld.f k a0) (impl_TextHeld.f (k + 1) a0) := by
 intro a0 k
 unfold impl_TextHeld.f
 exact leo1 impl_held.mono
set_option maxHeartbeats 8000000 in
set_option maxRecDepth 100000 in
theorem impl_TextHeld.calls (k : Nat) (a0 : ByteArray) (r : Int) (w : World) (h : impl_TextHeld.f k a0 = some r) :
  Calls Tryz.prog 16 #[.string a0] w fun e w'=>e = .returned (.int .i64 r) ∧ Below w.heap.size w w':=by
 have HB:=m_ (Below.refl w.heap.size w)
 have H : ((impl_TextOk.f a0).bind fun t547=>(if t547 = true then ((impl_held.f k a0).bind fun t548=>(some t548)) else (some 0))) = some r:=h
 clear h
 replace H:=Option.bind_eq_some_iff.mp H
 obtain ⟨t547,A20,H⟩:=H
 have A2:=m_ A20
 clear A20
 by_cases c3 : t547 = true
 ·subst c3
  replace H:=ifp H rfl
  replace H:=Option.bind_eq_some_iff.mp H
  obtain ⟨t548,A40,H⟩:=H
  have A4:=m_ A40
  clear A40
  obtain rfl:=Option.some.inj H
  go_enter Tryz.func16,Tryz.ntmps16
  go_wp2_with (first|((with_reducible refine gate_callee (f:=35) rfl ?_);refine goesL_ (some 4) rfl rfl Tryz.func35 (by kernel_rfl) rfl #[.string a0] rfl lens ?_;(with_reducible refine (impl_TextOk.calls a0 true _ A2.out).mono ?_);rintro e w5 ⟨rfl,hb⟩;refine ⟨_,rfl,?_⟩;have n0_:=m_ (l5_ (puL HB.out) hb);revert n0_;clear HB;intro HB;(try clear hb);(try clear hb2);(try clear hk);(try clear hi))|((with_reducible refine gate_callee (f:=36) rfl ?_);refine goesL_ (some 7) rfl rfl Tryz.func36 (by kernel_rfl) rfl #[.string a0] rfl lens ?_;(with_reducible refine (impl_held.calls k a0 t548 _ A4.out).mono ?_);rintro e w6 ⟨rfl,hb⟩;refine ⟨_,rfl,?_⟩;have n0_:=m_ (l5_ (puL HB.out) hb);revert n0_;clear HB;intro HB;(try clear hb);(try clear hb2);(try clear hk);(try clear hi)))
  go_ret
  exact ⟨eqs,puL HB.out⟩
 ·replace c3:=Bool.eq_false_iff.mpr c3
  subst c3
  replace H:=ifn H
  obtain rfl:=Option.some.inj H
  go_enter Tryz.func16,Tryz.ntmps16
  go_wp2_with (first|((with_reducible refine gate_callee (f:=35) rfl ?_);refine goesL_ (some 4) rfl rfl Tryz.func35 (by kernel_rfl) rfl #[.string a0] rfl lens ?_;(with_reducible refine (impl_TextOk.calls a0 false _ A2.out).mono ?_);rintro e w7 ⟨rfl,hb⟩;refine ⟨_,rfl,?_⟩;have n0_:=m_ (l5_ (puL HB.out) hb);revert n0_;clear HB;intro HB;(try clear hb);(try clear hb2);(try clear hk);(try clear hi)))
  go_ret
  exact ⟨eqs,puL HB.out⟩

end Go.Proofs.YtkcjmmhleepjeaaGreatDoor.A
