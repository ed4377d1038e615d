-- Printed by myprint.py (wip/tools) out of the translation. Not trusted: Lean checks it.
import Derived.Test.YtkcjmmhleepjeaaGreatDoorAx0
import Derived.Test.YtkcjmmhleepjeaaGreatDoorAx15
import Derived.Test.YtkcjmmhleepjeaaGreatDoorAx17
namespace Go.Proofs.YtkcjmmhleepjeaaGreatDoor.A
open Go.RowKit Go.Proofs.YtkcjmmhleepjeaaGreatDoorW.PrintWords Go.Proofs.YtkcjmmhleepjeaaGreatDoorW.PrintLast Go.Proofs.YtkcjmmhleepjeaaGreatDoorW.PrintMore
attribute [local go_sem] max2_int min2_int max_two min_two max_three min_three max_four min_four
set_option linter.unusedVariables false
set_option linter.unusedSimpArgs false

/-! ### impl_StreamOut: function 15 -/
def impl_StreamOut.f (k : Nat) (a0_0 : ByteArray) (l0_1 : List (S31)) : Option (ByteArray) := (impl_StreamOk.f k a0_0 l0_1).bind fun t545 => (if t545 = true then ((impl_Stream_out.f a0_0 l0_1).bind fun t546 => (some t546)) else (some (⟨#[]⟩ : ByteArray)))
theorem impl_StreamOut.mono : ∀ a0 a1 k, LeO (impl_StreamOut.f k a0 a1) (impl_StreamOut.f (k + 1) a0 a1) := by
 intro a0 a1 k
 unfold impl_StreamOut.f
 exact leo1 impl_StreamOk.mono
set_option maxHeartbeats 8000000 in
set_option maxRecDepth 100000 in
theorem impl_StreamOut.calls (k : Nat) (a0_0 : ByteArray) (A0_1 : Option Addr) (c0_1 : Nat) (l0_1 : List (S31)) (r : ByteArray) (w : World) (hr0_1 : Kd.C k31 w A0_1 l0_1.length l0_1) (hc0_1 : l0_1.length ≤ c0_1) (hG : GV w) (h : impl_StreamOut.f k a0_0 l0_1 = some r) :
  Calls Tryz.prog 15 #[.agg #[.string a0_0,.slice A0_1 l0_1.length c0_1]] w fun e w'=>e = .returned (.string r) ∧ Below w.heap.size w w':=by
 have hu25:=Tryz.underlying25
 have HG:=m_ hG
 clear hG
 have HR0_1:=m_ hr0_1
 have HC0_1:=m_ hc0_1
 clear hr0_1 hc0_1
 have HB:=m_ (Below.refl w.heap.size w)
 have H : ((impl_StreamOk.f k a0_0 l0_1).bind fun t545=>(if t545 = true then ((impl_Stream_out.f a0_0 l0_1).bind fun t546=>(some t546)) else (some (⟨#[]⟩ : ByteArray)))) = some r:=h
 clear h
 replace H:=Option.bind_eq_some_iff.mp H
 obtain ⟨t545,A20,H⟩:=H
 have A2:=m_ A20
 clear A20
 by_cases c3 : t545 = true
 ·subst c3
  replace H:=ifp H rfl
  replace H:=Option.bind_eq_some_iff.mp H
  obtain ⟨t546,A40,H⟩:=H
  have A4:=m_ A40
  clear A40
  obtain rfl:=Option.some.inj H
  go_enter Tryz.func15,Tryz.ntmps15
  go_wp2_with (first|((with_reducible refine gate_dst (N:=1) rfl ?_);refine box_event ?hg (N:=1) ?hd (cs:=#[.string a0_0,.slice A0_1 l0_1.length c0_1]) (t:=25) ?hr ?_;(case hd=>rfl);(case hg=>rfl);(case hr=>first|(go_simp;done)|(go_simp;rfl));intro gb544 hg w5 hbox hb;have n0_:=m_ (l5_ (puL HB.out) hb);have n1_:=m_ (hbox);have n2_:=m_ ((by rw [hg];exact (l6_ (puL HB.out)) : w.heap.size ≤ gb544));have n3_:=m_ ((by rw [hg];exact (l6_ (puL HB.out)) : w.heap.size ≤ gb544));revert n0_ n1_ n2_ n3_;clear HB;intro HB BK544 GW544 GE544;clear hb hbox hg;have hcz6_0 : w5.cell? ⟨gb544,0,none⟩ = some (.string a0_0):=(c_ BK544.out 0).trans rfl;have hcz6_1 : w5.cell? ⟨gb544,1,none⟩ = some (.slice A0_1 l0_1.length c0_1):=(c_ BK544.out 1).trans rfl)|((with_reducible refine gate_callee (f:=21) rfl ?_);refine goesL_ (some 4) rfl rfl Tryz.func21 (by kernel_rfl) rfl #[.agg #[.string a0_0,.slice A0_1 l0_1.length c0_1]] rfl lens ?_;(with_reducible refine (impl_StreamOk.calls k a0_0 _ _ l0_1 true _ ?side1 ?side2 ?side3 A2.out).mono ?_);(case side1=>exact puC (Kd.C_below HR0_1.out HB.out));(case side2=>exact HC0_1.out);(case side3=>first|(with_reducible exact HG.out)|exact GV_below HG.out (puM HB.out GE544.out));rintro e w7 ⟨rfl,hb⟩;refine ⟨_,rfl,?_⟩;have n0_:=m_ (blk_below (g:=gb544) (o:=.cells #[.string a0_0,.slice A0_1 l0_1.length c0_1] 25 (0,0)) (puB BK544.out) hb);have n1_:=m_ (l5_ (puM HB.out GE544.out) hb);revert n0_ n1_;clear BK544 HB;intro BK544 HB;(try clear hb);(try clear hb2);(try clear hk);(try clear hi);have hcz8_0 : w7.cell? ⟨gb544,0,none⟩ = some (.string a0_0):=(c_ BK544.out 0).trans rfl;have hcz8_1 : w7.cell? ⟨gb544,1,none⟩ = some (.slice A0_1 l0_1.length c0_1):=(c_ BK544.out 1).trans rfl)|((with_reducible refine gate_callee (f:=31) rfl ?_);refine goesL_ (some 7) rfl rfl Tryz.func31 (by kernel_rfl) rfl #[.agg #[.string a0_0,.slice A0_1 l0_1.length c0_1]] rfl lens ?_;(with_reducible refine (impl_Stream_out.calls a0_0 _ _ l0_1 t546 _ ?side1 ?side2 A4.out).mono ?_);(case side1=>exact puC (Kd.C_below HR0_1.out HB.out));(case side2=>exact HC0_1.out);rintro e w9 ⟨rfl,hb⟩;refine ⟨_,rfl,?_⟩;have n0_:=m_ (blk_below (g:=gb544) (o:=.cells #[.string a0_0,.slice A0_1 l0_1.length c0_1] 25 (0,0)) (puB BK544.out) hb);have n1_:=m_ (l5_ (puM HB.out GE544.out) hb);revert n0_ n1_;clear BK544 HB;intro BK544 HB;(try clear hb);(try clear hb2);(try clear hk);(try clear hi)))
  go_ret
  exact ⟨eqs,puM HB.out GE544.out⟩
 ·replace c3:=Bool.eq_false_iff.mpr c3
  subst c3
  replace H:=ifn H
  obtain rfl:=Option.some.inj H
  go_enter Tryz.func15,Tryz.ntmps15
  go_wp2_with (first|((with_reducible refine gate_dst (N:=1) rfl ?_);refine box_event ?hg (N:=1) ?hd (cs:=#[.string a0_0,.slice A0_1 l0_1.length c0_1]) (t:=25) ?hr ?_;(case hd=>rfl);(case hg=>rfl);(case hr=>first|(go_simp;done)|(go_simp;rfl));intro gb544 hg w10 hbox hb;have n0_:=m_ (l5_ (puL HB.out) hb);have n1_:=m_ (hbox);have n2_:=m_ ((by rw [hg];exact (l6_ (puL HB.out)) : w.heap.size ≤ gb544));have n3_:=m_ ((by rw [hg];exact (l6_ (puL HB.out)) : w.heap.size ≤ gb544));revert n0_ n1_ n2_ n3_;clear HB;intro HB BK544 GW544 GE544;clear hb hbox hg;have hcz11_0 : w10.cell? ⟨gb544,0,none⟩ = some (.string a0_0):=(c_ BK544.out 0).trans rfl;have hcz11_1 : w10.cell? ⟨gb544,1,none⟩ = some (.slice A0_1 l0_1.length c0_1):=(c_ BK544.out 1).trans rfl)|((with_reducible refine gate_callee (f:=21) rfl ?_);refine goesL_ (some 4) rfl rfl Tryz.func21 (by kernel_rfl) rfl #[.agg #[.string a0_0,.slice A0_1 l0_1.length c0_1]] rfl lens ?_;(with_reducible refine (impl_StreamOk.calls k a0_0 _ _ l0_1 false _ ?side1 ?side2 ?side3 A2.out).mono ?_);(case side1=>exact puC (Kd.C_below HR0_1.out HB.out));(case side2=>exact HC0_1.out);(case side3=>first|(with_reducible exact HG.out)|exact GV_below HG.out (puM HB.out GE544.out));rintro e w12 ⟨rfl,hb⟩;refine ⟨_,rfl,?_⟩;have n0_:=m_ (blk_below (g:=gb544) (o:=.cells #[.string a0_0,.slice A0_1 l0_1.length c0_1] 25 (0,0)) (puB BK544.out) hb);have n1_:=m_ (l5_ (puM HB.out GE544.out) hb);revert n0_ n1_;clear BK544 HB;intro BK544 HB;(try clear hb);(try clear hb2);(try clear hk);(try clear hi)))
  go_ret
  exact ⟨eqs,puM HB.out GE544.out⟩

end Go.Proofs.YtkcjmmhleepjeaaGreatDoor.A
