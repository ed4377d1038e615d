-- Printed by myprint.py (wip/tools) out of the translation. Not trusted: Lean checks it.
import Derived.Test.YtkcjmmhleepjeaaDoorAx0
import Derived.Test.YtkcjmmhleepjeaaDoorAx5
import Derived.Test.YtkcjmmhleepjeaaDoorAx8
import Derived.Test.YtkcjmmhleepjeaaDoorAx9
import Derived.Test.YtkcjmmhleepjeaaDoorAx10
import Derived.Test.YtkcjmmhleepjeaaDoorAx11
namespace Go.Proofs.YtkcjmmhleepjeaaDoor.A
open Go.RowKit Go.Proofs.YtkcjmmhleepjeaaDoorW.PrintWords Go.Proofs.YtkcjmmhleepjeaaDoorW.PrintLast Go.Proofs.YtkcjmmhleepjeaaDoorW.PrintMore
attribute [local go_sem] max2_int min2_int max_two min_two max_three min_three max_four min_four   -- for this text's walks alone
set_option linter.unusedVariables false
set_option linter.unusedSimpArgs false

/-! ### spec_StreamOut: function 15 -/
def spec_StreamOut.f (k : Nat) (a0_0 : ByteArray) (l0_1 : List (S41)) : Option (ByteArray) := (spec_StreamOk.f k a0_0 l0_1).bind fun t354 => (if t354 = true then ((spec_l11Out.f k a0_0 l0_1).bind fun t355 => (some t355)) else (some (⟨#[]⟩ : ByteArray)))
theorem spec_StreamOut.mono : ∀ a0 a1 k, LeO (spec_StreamOut.f k a0 a1) (spec_StreamOut.f (k + 1) a0 a1) := by
 intro a0 a1 k
 unfold spec_StreamOut.f
 repeat' first
   | (with_reducible exact spec_StreamOk.mono _ _ _)
   | (with_reducible exact spec_l11Out.mono _ _ _)
   | (with_reducible exact LeO.refl _)
   | (with_reducible exact LeO.none _)
   | (with_reducible refine LeO.ite ?_ ?_)
   | (with_reducible refine LeO.bind ?_ (fun _ => ?_))
   | exact spec_StreamOk.mono _ _ _
   | exact spec_l11Out.mono _ _ _
   | exact LeO.none _
   | refine LeO.ite ?_ ?_
   | refine LeO.bind ?_ (fun _ => ?_)
set_option maxHeartbeats 8000000 in
set_option maxRecDepth 100000 in
theorem spec_StreamOut.calls (k : Nat) (a0_0 : ByteArray) (A0_1 : Option Addr) (c0_1 : Nat) (l0_1 : List (S41)) (r : ByteArray) (w : World) (hr0_1 : Kd.C k41 w A0_1 l0_1.length l0_1) (hc0_1 : l0_1.length ≤ c0_1) (h : spec_StreamOut.f k a0_0 l0_1 = some r) :
  Calls Tryd.prog 15 #[.agg #[.string a0_0,.slice A0_1 l0_1.length c0_1]] w fun e w'=>e = .returned (.string r) ∧ Below w.heap.size w w':=by
 have hu29:=Tryd.underlying29
 have HR0_1:=m_ hr0_1
 have HC0_1:=m_ hc0_1
 clear hr0_1 hc0_1
 have HB:=m_ (Below.refl w.heap.size w)
 have H : ((spec_StreamOk.f k a0_0 l0_1).bind fun t354=>(if t354 = true then ((spec_l11Out.f k a0_0 l0_1).bind fun t355=>(some t355)) else (some (⟨#[]⟩ : ByteArray)))) = some r:=h
 clear h
 replace H:=Option.bind_eq_some_iff.mp H
 obtain ⟨t354,A20,H⟩:=H
 replace H : (if t354 = true then ((spec_l11Out.f k a0_0 l0_1).bind fun t355=>(some t355)) else (some (⟨#[]⟩ : ByteArray))) = some r:=H
 have A2:=m_ A20
 clear A20
 by_cases c3 : t354 = true
 ·subst c3
  have H1 : ((spec_l11Out.f k a0_0 l0_1).bind fun t355=>(some t355)) = some r:=by rw [if_pos rfl] at H;exact H
  clear H
  have H:=H1
  clear H1
  replace H:=Option.bind_eq_some_iff.mp H
  obtain ⟨t355,A40,H⟩:=H
  replace H : (some t355) = some r:=H
  have A4:=m_ A40
  clear A40
  obtain rfl:=Option.some.inj H
  go_enter Tryd.func15,Tryd.ntmps15
  go_wp2_with (first|((with_reducible refine gate_dst (N:=1) rfl ?_);refine box_event ?hg (N:=1) ?hd (cs:=#[.string a0_0,.slice A0_1 l0_1.length c0_1]) (t:=29) ?hr ?_;(case hd=>rfl);(case hg=>rfl);(case hr=>first|(go_simp;done)|(go_simp;rfl));intro gb353 hg w5 hbox hb;have n0_:=m_ (l5_ (by repeat (first|(with_reducible first|exact HB.out|apply l1_|apply l2_|apply l3_)|exact HB.out)) hb);have n1_:=m_ (hbox);have n2_:=m_ ((by rw [hg];exact (l6_ (by repeat (first|(with_reducible first|exact HB.out|apply l1_|apply l2_|apply l3_)|exact HB.out))) : w.heap.size ≤ gb353));have n3_:=m_ ((by rw [hg];exact (l6_ (by repeat (first|(with_reducible first|exact HB.out|apply l1_|apply l2_|apply l3_)|exact HB.out))) : w.heap.size ≤ gb353));clear HB;have HB:=n0_;have BK353:=n1_;have GW353:=n2_;have GE353:=n3_;clear n0_ n1_ n2_ n3_;clear hb hbox hg;have hcz6_0 : w5.cell? ⟨gb353,0,none⟩ = some (.string a0_0):=(c_ BK353.out 0).trans rfl;have hcz6_1 : w5.cell? ⟨gb353,1,none⟩ = some (.slice A0_1 l0_1.length c0_1):=(c_ BK353.out 1).trans rfl)|((with_reducible refine gate_callee (f:=9) rfl ?_);refine goesL_ (some 4) rfl rfl Tryd.func9 (by kernel_rfl) rfl #[.agg #[.string a0_0,.slice A0_1 l0_1.length c0_1]] rfl (by (try simp only [List.map_toArray,List.map_cons,List.map_nil]);first|done|rfl|(simp only [List.length_drop,List.length_take];rfl)) ?_;(with_reducible refine (spec_StreamOk.calls k a0_0 _ _ l0_1 true _ ?side1 ?side2 A2.out).mono ?_);(case side1=>repeat (first|exact (Kd.C_below HR0_1.out HB.out)|(with_reducible refine Kd.C_alloc ?_ _)|(with_reducible refine Kd.C_drewN ?_ _)|(with_reducible refine Kd.C_drew ?_)));(case side2=>exact HC0_1.out);rintro e w7 ⟨rfl,hb⟩;refine ⟨_,rfl,?_⟩;have n0_:=m_ (blk_below (g:=gb353) (o:=.cells #[.string a0_0,.slice A0_1 l0_1.length c0_1] 29 (0,0)) (by (with_reducible repeat first|apply b1_|apply b2_|apply b3_);exact BK353.out) hb);have n1_:=m_ (l5_ (by repeat (first|(with_reducible first|exact HB.out|apply l1_|apply l2_|apply l3_|refine l4_ ?_ GE353.out)|exact HB.out)) hb);clear BK353;clear HB;have BK353:=n0_;have HB:=n1_;clear n0_ n1_;(try clear hb);(try clear hb2);(try clear hk);(try clear hi);have hcz8_0 : w7.cell? ⟨gb353,0,none⟩ = some (.string a0_0):=(c_ BK353.out 0).trans rfl;have hcz8_1 : w7.cell? ⟨gb353,1,none⟩ = some (.slice A0_1 l0_1.length c0_1):=(c_ BK353.out 1).trans rfl)|((with_reducible refine gate_callee (f:=34) rfl ?_);refine goesL_ (some 7) rfl rfl Tryd.func34 (by kernel_rfl) rfl #[.agg #[.string a0_0,.slice A0_1 l0_1.length c0_1]] rfl (by (try simp only [List.map_toArray,List.map_cons,List.map_nil]);first|done|rfl|(simp only [List.length_drop,List.length_take];rfl)) ?_;(with_reducible refine (spec_l11Out.calls k a0_0 _ _ l0_1 t355 _ ?side1 ?side2 A4.out).mono ?_);(case side1=>repeat (first|exact (Kd.C_below HR0_1.out HB.out)|(with_reducible refine Kd.C_alloc ?_ _)|(with_reducible refine Kd.C_drewN ?_ _)|(with_reducible refine Kd.C_drew ?_)));(case side2=>exact HC0_1.out);rintro e w9 ⟨rfl,hb⟩;refine ⟨_,rfl,?_⟩;have n0_:=m_ (blk_below (g:=gb353) (o:=.cells #[.string a0_0,.slice A0_1 l0_1.length c0_1] 29 (0,0)) (by (with_reducible repeat first|apply b1_|apply b2_|apply b3_);exact BK353.out) hb);have n1_:=m_ (l5_ (by repeat (first|(with_reducible first|exact HB.out|apply l1_|apply l2_|apply l3_|refine l4_ ?_ GE353.out)|exact HB.out)) hb);clear BK353;clear HB;have BK353:=n0_;have HB:=n1_;clear n0_ n1_;(try clear hb);(try clear hb2);(try clear hk);(try clear hi)))
  go_ret
  exact ⟨by first|rfl|(simp [e1_,e2_] <;> rfl)|(simp [*,e1_,e2_] <;> rfl)|(simp [e1_,e2_,pk_empty1,pk_empty2];done)|(simp [*,e1_,e2_,pk_empty1,pk_empty2];done),by repeat (first|(with_reducible first|exact HB.out|apply l1_|apply l2_|apply l3_|refine l4_ ?_ GE353.out)|exact HB.out)⟩
 ·replace c3:=Bool.eq_false_iff.mpr c3
  subst c3
  have H1 : (some (⟨#[]⟩ : ByteArray)) = some r:=by rw [if_neg (show ¬ (false = true) by decide)] at H;exact H
  clear H
  have H:=H1
  clear H1
  obtain rfl:=Option.some.inj H
  go_enter Tryd.func15,Tryd.ntmps15
  go_wp2_with (first|((with_reducible refine gate_dst (N:=1) rfl ?_);refine box_event ?hg (N:=1) ?hd (cs:=#[.string a0_0,.slice A0_1 l0_1.length c0_1]) (t:=29) ?hr ?_;(case hd=>rfl);(case hg=>rfl);(case hr=>first|(go_simp;done)|(go_simp;rfl));intro gb353 hg w10 hbox hb;have n0_:=m_ (l5_ (by repeat (first|(with_reducible first|exact HB.out|apply l1_|apply l2_|apply l3_)|exact HB.out)) hb);have n1_:=m_ (hbox);have n2_:=m_ ((by rw [hg];exact (l6_ (by repeat (first|(with_reducible first|exact HB.out|apply l1_|apply l2_|apply l3_)|exact HB.out))) : w.heap.size ≤ gb353));have n3_:=m_ ((by rw [hg];exact (l6_ (by repeat (first|(with_reducible first|exact HB.out|apply l1_|apply l2_|apply l3_)|exact HB.out))) : w.heap.size ≤ gb353));clear HB;have HB:=n0_;have BK353:=n1_;have GW353:=n2_;have GE353:=n3_;clear n0_ n1_ n2_ n3_;clear hb hbox hg;have hcz11_0 : w10.cell? ⟨gb353,0,none⟩ = some (.string a0_0):=(c_ BK353.out 0).trans rfl;have hcz11_1 : w10.cell? ⟨gb353,1,none⟩ = some (.slice A0_1 l0_1.length c0_1):=(c_ BK353.out 1).trans rfl)|((with_reducible refine gate_callee (f:=9) rfl ?_);refine goesL_ (some 4) rfl rfl Tryd.func9 (by kernel_rfl) rfl #[.agg #[.string a0_0,.slice A0_1 l0_1.length c0_1]] rfl (by (try simp only [List.map_toArray,List.map_cons,List.map_nil]);first|done|rfl|(simp only [List.length_drop,List.length_take];rfl)) ?_;(with_reducible refine (spec_StreamOk.calls k a0_0 _ _ l0_1 false _ ?side1 ?side2 A2.out).mono ?_);(case side1=>repeat (first|exact (Kd.C_below HR0_1.out HB.out)|(with_reducible refine Kd.C_alloc ?_ _)|(with_reducible refine Kd.C_drewN ?_ _)|(with_reducible refine Kd.C_drew ?_)));(case side2=>exact HC0_1.out);rintro e w12 ⟨rfl,hb⟩;refine ⟨_,rfl,?_⟩;have n0_:=m_ (blk_below (g:=gb353) (o:=.cells #[.string a0_0,.slice A0_1 l0_1.length c0_1] 29 (0,0)) (by (with_reducible repeat first|apply b1_|apply b2_|apply b3_);exact BK353.out) hb);have n1_:=m_ (l5_ (by repeat (first|(with_reducible first|exact HB.out|apply l1_|apply l2_|apply l3_|refine l4_ ?_ GE353.out)|exact HB.out)) hb);clear BK353;clear HB;have BK353:=n0_;have HB:=n1_;clear n0_ n1_;(try clear hb);(try clear hb2);(try clear hk);(try clear hi)))
  go_ret
  exact ⟨by first|rfl|(simp [e1_,e2_] <;> rfl)|(simp [*,e1_,e2_] <;> rfl)|(simp [e1_,e2_,pk_empty1,pk_empty2];done)|(simp [*,e1_,e2_,pk_empty1,pk_empty2];done),by repeat (first|(with_reducible first|exact HB.out|apply l1_|apply l2_|apply l3_|refine l4_ ?_ GE353.out)|exact HB.out)⟩

/-! ### impl_StreamOut: function 16 -/
def impl_StreamOut.f (k : Nat) (a0_0 : ByteArray) (l0_1 : List (S41)) : Option (ByteArray) := (impl_StreamOk.f k a0_0 l0_1).bind fun t357 => (if t357 = true then ((impl_Stream_out.f a0_0 l0_1).bind fun t358 => (some t358)) else (some (⟨#[]⟩ : ByteArray)))
theorem impl_StreamOut.mono : ∀ a0 a1 k, LeO (impl_StreamOut.f k a0 a1) (impl_StreamOut.f (k + 1) a0 a1) := by
 intro a0 a1 k
 unfold impl_StreamOut.f
 repeat' first
   | (with_reducible exact impl_StreamOk.mono _ _ _)
   | (with_reducible exact LeO.refl _)
   | (with_reducible exact LeO.none _)
   | (with_reducible refine LeO.ite ?_ ?_)
   | (with_reducible refine LeO.bind ?_ (fun _ => ?_))
   | exact impl_StreamOk.mono _ _ _
   | exact LeO.none _
   | refine LeO.ite ?_ ?_
   | refine LeO.bind ?_ (fun _ => ?_)
set_option maxHeartbeats 8000000 in
set_option maxRecDepth 100000 in
theorem impl_StreamOut.calls (k : Nat) (a0_0 : ByteArray) (A0_1 : Option Addr) (c0_1 : Nat) (l0_1 : List (S41)) (r : ByteArray) (w : World) (hr0_1 : Kd.C k41 w A0_1 l0_1.length l0_1) (hc0_1 : l0_1.length ≤ c0_1) (hG : GV w) (h : impl_StreamOut.f k a0_0 l0_1 = some r) :
  Calls Tryd.prog 16 #[.agg #[.string a0_0,.slice A0_1 l0_1.length c0_1]] w fun e w'=>e = .returned (.string r) ∧ Below w.heap.size w w':=by
 have hu29:=Tryd.underlying29
 have HG:=m_ hG
 clear hG
 have HR0_1:=m_ hr0_1
 have HC0_1:=m_ hc0_1
 clear hr0_1 hc0_1
 have HB:=m_ (Below.refl w.heap.size w)
 have H : ((impl_StreamOk.f k a0_0 l0_1).bind fun t357=>(if t357 = true then ((impl_Stream_out.f a0_0 l0_1).bind fun t358=>(some t358)) else (some (⟨#[]⟩ : ByteArray)))) = some r:=h
 clear h
 replace H:=Option.bind_eq_some_iff.mp H
 obtain ⟨t357,A20,H⟩:=H
 replace H : (if t357 = true then ((impl_Stream_out.f a0_0 l0_1).bind fun t358=>(some t358)) else (some (⟨#[]⟩ : ByteArray))) = some r:=H
 have A2:=m_ A20
 clear A20
 by_cases c3 : t357 = true
 ·subst c3
  have H1 : ((impl_Stream_out.f a0_0 l0_1).bind fun t358=>(some t358)) = some r:=by rw [if_pos rfl] at H;exact H
  clear H
  have H:=H1
  clear H1
  replace H:=Option.bind_eq_some_iff.mp H
  obtain ⟨t358,A40,H⟩:=H
  replace H : (some t358) = some r:=H
  have A4:=m_ A40
  clear A40
  obtain rfl:=Option.some.inj H
  go_enter Tryd.func16,Tryd.ntmps16
  go_wp2_with (first|((with_reducible refine gate_dst (N:=1) rfl ?_);refine box_event ?hg (N:=1) ?hd (cs:=#[.string a0_0,.slice A0_1 l0_1.length c0_1]) (t:=29) ?hr ?_;(case hd=>rfl);(case hg=>rfl);(case hr=>first|(go_simp;done)|(go_simp;rfl));intro gb356 hg w5 hbox hb;have n0_:=m_ (l5_ (by repeat (first|(with_reducible first|exact HB.out|apply l1_|apply l2_|apply l3_)|exact HB.out)) hb);have n1_:=m_ (hbox);have n2_:=m_ ((by rw [hg];exact (l6_ (by repeat (first|(with_reducible first|exact HB.out|apply l1_|apply l2_|apply l3_)|exact HB.out))) : w.heap.size ≤ gb356));have n3_:=m_ ((by rw [hg];exact (l6_ (by repeat (first|(with_reducible first|exact HB.out|apply l1_|apply l2_|apply l3_)|exact HB.out))) : w.heap.size ≤ gb356));clear HB;have HB:=n0_;have BK356:=n1_;have GW356:=n2_;have GE356:=n3_;clear n0_ n1_ n2_ n3_;clear hb hbox hg;have hcz6_0 : w5.cell? ⟨gb356,0,none⟩ = some (.string a0_0):=(c_ BK356.out 0).trans rfl;have hcz6_1 : w5.cell? ⟨gb356,1,none⟩ = some (.slice A0_1 l0_1.length c0_1):=(c_ BK356.out 1).trans rfl)|((with_reducible refine gate_callee (f:=11) rfl ?_);refine goesL_ (some 4) rfl rfl Tryd.func11 (by kernel_rfl) rfl #[.agg #[.string a0_0,.slice A0_1 l0_1.length c0_1]] rfl (by (try simp only [List.map_toArray,List.map_cons,List.map_nil]);first|done|rfl|(simp only [List.length_drop,List.length_take];rfl)) ?_;(with_reducible refine (impl_StreamOk.calls k a0_0 _ _ l0_1 true _ ?side1 ?side2 ?side3 A2.out).mono ?_);(case side1=>repeat (first|exact (Kd.C_below HR0_1.out HB.out)|(with_reducible refine Kd.C_alloc ?_ _)|(with_reducible refine Kd.C_drewN ?_ _)|(with_reducible refine Kd.C_drew ?_)));(case side2=>exact HC0_1.out);(case side3=>first|(with_reducible exact HG.out)|exact GV_below HG.out (by repeat (first|(with_reducible first|exact HB.out|apply l1_|apply l2_|apply l3_|refine l4_ ?_ GE356.out)|exact HB.out)));rintro e w7 ⟨rfl,hb⟩;refine ⟨_,rfl,?_⟩;have n0_:=m_ (blk_below (g:=gb356) (o:=.cells #[.string a0_0,.slice A0_1 l0_1.length c0_1] 29 (0,0)) (by (with_reducible repeat first|apply b1_|apply b2_|apply b3_);exact BK356.out) hb);have n1_:=m_ (l5_ (by repeat (first|(with_reducible first|exact HB.out|apply l1_|apply l2_|apply l3_|refine l4_ ?_ GE356.out)|exact HB.out)) hb);clear BK356;clear HB;have BK356:=n0_;have HB:=n1_;clear n0_ n1_;(try clear hb);(try clear hb2);(try clear hk);(try clear hi);have hcz8_0 : w7.cell? ⟨gb356,0,none⟩ = some (.string a0_0):=(c_ BK356.out 0).trans rfl;have hcz8_1 : w7.cell? ⟨gb356,1,none⟩ = some (.slice A0_1 l0_1.length c0_1):=(c_ BK356.out 1).trans rfl)|((with_reducible refine gate_callee (f:=35) rfl ?_);refine goesL_ (some 7) rfl rfl Tryd.func35 (by kernel_rfl) rfl #[.agg #[.string a0_0,.slice A0_1 l0_1.length c0_1]] rfl (by (try simp only [List.map_toArray,List.map_cons,List.map_nil]);first|done|rfl|(simp only [List.length_drop,List.length_take];rfl)) ?_;(with_reducible refine (impl_Stream_out.calls a0_0 _ _ l0_1 t358 _ ?side1 ?side2 A4.out).mono ?_);(case side1=>repeat (first|exact (Kd.C_below HR0_1.out HB.out)|(with_reducible refine Kd.C_alloc ?_ _)|(with_reducible refine Kd.C_drewN ?_ _)|(with_reducible refine Kd.C_drew ?_)));(case side2=>exact HC0_1.out);rintro e w9 ⟨rfl,hb⟩;refine ⟨_,rfl,?_⟩;have n0_:=m_ (blk_below (g:=gb356) (o:=.cells #[.string a0_0,.slice A0_1 l0_1.length c0_1] 29 (0,0)) (by (with_reducible repeat first|apply b1_|apply b2_|apply b3_);exact BK356.out) hb);have n1_:=m_ (l5_ (by repeat (first|(with_reducible first|exact HB.out|apply l1_|apply l2_|apply l3_|refine l4_ ?_ GE356.out)|exact HB.out)) hb);clear BK356;clear HB;have BK356:=n0_;have HB:=n1_;clear n0_ n1_;(try clear hb);(try clear hb2);(try clear hk);(try clear hi)))
  go_ret
  exact ⟨by first|rfl|(simp [e1_,e2_] <;> rfl)|(simp [*,e1_,e2_] <;> rfl)|(simp [e1_,e2_,pk_empty1,pk_empty2];done)|(simp [*,e1_,e2_,pk_empty1,pk_empty2];done),by repeat (first|(with_reducible first|exact HB.out|apply l1_|apply l2_|apply l3_|refine l4_ ?_ GE356.out)|exact HB.out)⟩
 ·replace c3:=Bool.eq_false_iff.mpr c3
  subst c3
  have H1 : (some (⟨#[]⟩ : ByteArray)) = some r:=by rw [if_neg (show ¬ (false = true) by decide)] at H;exact H
  clear H
  have H:=H1
  clear H1
  obtain rfl:=Option.some.inj H
  go_enter Tryd.func16,Tryd.ntmps16
  go_wp2_with (first|((with_reducible refine gate_dst (N:=1) rfl ?_);refine box_event ?hg (N:=1) ?hd (cs:=#[.string a0_0,.slice A0_1 l0_1.length c0_1]) (t:=29) ?hr ?_;(case hd=>rfl);(case hg=>rfl);(case hr=>first|(go_simp;done)|(go_simp;rfl));intro gb356 hg w10 hbox hb;have n0_:=m_ (l5_ (by repeat (first|(with_reducible first|exact HB.out|apply l1_|apply l2_|apply l3_)|exact HB.out)) hb);have n1_:=m_ (hbox);have n2_:=m_ ((by rw [hg];exact (l6_ (by repeat (first|(with_reducible first|exact HB.out|apply l1_|apply l2_|apply l3_)|exact HB.out))) : w.heap.size ≤ gb356));have n3_:=m_ ((by rw [hg];exact (l6_ (by repeat (first|(with_reducible first|exact HB.out|apply l1_|apply l2_|apply l3_)|exact HB.out))) : w.heap.size ≤ gb356));clear HB;have HB:=n0_;have BK356:=n1_;have GW356:=n2_;have GE356:=n3_;clear n0_ n1_ n2_ n3_;clear hb hbox hg;have hcz11_0 : w10.cell? ⟨gb356,0,none⟩ = some (.string a0_0):=(c_ BK356.out 0).trans rfl;have hcz11_1 : w10.cell? ⟨gb356,1,none⟩ = some (.slice A0_1 l0_1.length c0_1):=(c_ BK356.out 1).trans rfl)|((with_reducible refine gate_callee (f:=11) rfl ?_);refine goesL_ (some 4) rfl rfl Tryd.func11 (by kernel_rfl) rfl #[.agg #[.string a0_0,.slice A0_1 l0_1.length c0_1]] rfl (by (try simp only [List.map_toArray,List.map_cons,List.map_nil]);first|done|rfl|(simp only [List.length_drop,List.length_take];rfl)) ?_;(with_reducible refine (impl_StreamOk.calls k a0_0 _ _ l0_1 false _ ?side1 ?side2 ?side3 A2.out).mono ?_);(case side1=>repeat (first|exact (Kd.C_below HR0_1.out HB.out)|(with_reducible refine Kd.C_alloc ?_ _)|(with_reducible refine Kd.C_drewN ?_ _)|(with_reducible refine Kd.C_drew ?_)));(case side2=>exact HC0_1.out);(case side3=>first|(with_reducible exact HG.out)|exact GV_below HG.out (by repeat (first|(with_reducible first|exact HB.out|apply l1_|apply l2_|apply l3_|refine l4_ ?_ GE356.out)|exact HB.out)));rintro e w12 ⟨rfl,hb⟩;refine ⟨_,rfl,?_⟩;have n0_:=m_ (blk_below (g:=gb356) (o:=.cells #[.string a0_0,.slice A0_1 l0_1.length c0_1] 29 (0,0)) (by (with_reducible repeat first|apply b1_|apply b2_|apply b3_);exact BK356.out) hb);have n1_:=m_ (l5_ (by repeat (first|(with_reducible first|exact HB.out|apply l1_|apply l2_|apply l3_|refine l4_ ?_ GE356.out)|exact HB.out)) hb);clear BK356;clear HB;have BK356:=n0_;have HB:=n1_;clear n0_ n1_;(try clear hb);(try clear hb2);(try clear hk);(try clear hi)))
  go_ret
  exact ⟨by first|rfl|(simp [e1_,e2_] <;> rfl)|(simp [*,e1_,e2_] <;> rfl)|(simp [e1_,e2_,pk_empty1,pk_empty2];done)|(simp [*,e1_,e2_,pk_empty1,pk_empty2];done),by repeat (first|(with_reducible first|exact HB.out|apply l1_|apply l2_|apply l3_|refine l4_ ?_ GE356.out)|exact HB.out)⟩

/-! ### laws_FnExactStreamOut: function 5 -/
def laws_FnExactStreamOut.f (k : Nat) (a0_0 : ByteArray) (l0_1 : List (S62)) : Option (Bool) := (laws_szStream.f k a0_0 l0_1 1048576).bind fun t360 => (if t360 < 0 then (some true) else ((laws_toStream.f k a0_0 l0_1).bind fun bt361 => ((spec_StreamOut.f k bt361.1 bt361.2).bind fun t365 => ((laws_toStream.f k a0_0 l0_1).bind fun bt366 => ((impl_StreamOut.f k bt366.1 bt366.2).bind fun t371 => (if t371.toList = t365.toList then ((laws_toStream.f k a0_0 l0_1).bind fun bt372 => ((laws_eqStream.f k bt366.1 bt366.2 bt372.1 bt372.2).bind fun t376 => (if t376 = true then (some true) else (some false)))) else (some false)))))))
theorem laws_FnExactStreamOut.mono : ∀ a0 a1 k, LeO (laws_FnExactStreamOut.f k a0 a1) (laws_FnExactStreamOut.f (k + 1) a0 a1) := by
 intro a0 a1 k
 unfold laws_FnExactStreamOut.f
 repeat' first
   | (with_reducible exact impl_StreamOut.mono _ _ _)
   | (with_reducible exact laws_eqStream.mono _ _ _ _ _)
   | (with_reducible exact laws_szStream.mono _ _ _ _)
   | (with_reducible exact laws_toStream.mono _ _ _)
   | (with_reducible exact spec_StreamOut.mono _ _ _)
   | (with_reducible exact LeO.refl _)
   | (with_reducible exact LeO.none _)
   | (with_reducible refine LeO.ite ?_ ?_)
   | (with_reducible refine LeO.bind ?_ (fun _ => ?_))
   | exact impl_StreamOut.mono _ _ _
   | exact laws_eqStream.mono _ _ _ _ _
   | exact laws_szStream.mono _ _ _ _
   | exact laws_toStream.mono _ _ _
   | exact spec_StreamOut.mono _ _ _
   | exact LeO.none _
   | refine LeO.ite ?_ ?_
   | refine LeO.bind ?_ (fun _ => ?_)
set_option maxHeartbeats 8000000 in
set_option maxRecDepth 100000 in
theorem laws_FnExactStreamOut.calls (k : Nat) (a0_0 : ByteArray) (A0_1 : Option Addr) (c0_1 : Nat) (l0_1 : List (S62)) (r : Bool) (w : World) (hr0_1 : Kd.C k62 w A0_1 l0_1.length l0_1) (hc0_1 : l0_1.length ≤ c0_1) (hG : GV w) (h : laws_FnExactStreamOut.f k a0_0 l0_1 = some r) :
  Calls Tryd.prog 5 #[.agg #[.string a0_0,.slice A0_1 l0_1.length c0_1]] w fun e w'=>e = .returned (.bool r) ∧ Below w.heap.size w w':=by
 have hu24:=Tryd.underlying24
 have hu29:=Tryd.underlying29
 have HG:=m_ hG
 clear hG
 have HR0_1:=m_ hr0_1
 have HC0_1:=m_ hc0_1
 clear hr0_1 hc0_1
 have HB:=m_ (Below.refl w.heap.size w)
 have H : ((laws_szStream.f k a0_0 l0_1 1048576).bind fun t360=>(if t360 < 0 then (some true) else ((laws_toStream.f k a0_0 l0_1).bind fun bt361=>((spec_StreamOut.f k bt361.1 bt361.2).bind fun t365=>((laws_toStream.f k a0_0 l0_1).bind fun bt366=>((impl_StreamOut.f k bt366.1 bt366.2).bind fun t371=>(if t371.toList = t365.toList then ((laws_toStream.f k a0_0 l0_1).bind fun bt372=>((laws_eqStream.f k bt366.1 bt366.2 bt372.1 bt372.2).bind fun t376=>(if t376 = true then (some true) else (some false)))) else (some false)))))))) = some r:=h
 clear h
 replace H:=Option.bind_eq_some_iff.mp H
 obtain ⟨t360,A20,H⟩:=H
 replace H : (if t360 < 0 then (some true) else ((laws_toStream.f k a0_0 l0_1).bind fun bt361=>((spec_StreamOut.f k bt361.1 bt361.2).bind fun t365=>((laws_toStream.f k a0_0 l0_1).bind fun bt366=>((impl_StreamOut.f k bt366.1 bt366.2).bind fun t371=>(if t371.toList = t365.toList then ((laws_toStream.f k a0_0 l0_1).bind fun bt372=>((laws_eqStream.f k bt366.1 bt366.2 bt372.1 bt372.2).bind fun t376=>(if t376 = true then (some true) else (some false)))) else (some false))))))) = some r:=H
 have A2:=m_ A20
 clear A20
 by_cases c3 : t360 < 0
 ·rw [if_pos c3] at H
  have c3b0 : decide (t360 < 0) = true:=decide_eq_true c3
  clear c3
  obtain rfl:=Option.some.inj H
  go_enter Tryd.func5,Tryd.ntmps5
  go_wp2_with (first|((with_reducible refine gate_dst (N:=1) rfl ?_);refine box_event ?hg (N:=1) ?hd (cs:=#[.string a0_0,.slice A0_1 l0_1.length c0_1]) (t:=24) ?hr ?_;(case hd=>rfl);(case hg=>rfl);(case hr=>first|(go_simp;done)|(go_simp;rfl));intro gb359 hg w4 hbox hb;have n0_:=m_ (l5_ (by repeat (first|(with_reducible first|exact HB.out|apply l1_|apply l2_|apply l3_)|exact HB.out)) hb);have n1_:=m_ (hbox);have n2_:=m_ ((by rw [hg];exact (l6_ (by repeat (first|(with_reducible first|exact HB.out|apply l1_|apply l2_|apply l3_)|exact HB.out))) : w.heap.size ≤ gb359));have n3_:=m_ ((by rw [hg];exact (l6_ (by repeat (first|(with_reducible first|exact HB.out|apply l1_|apply l2_|apply l3_)|exact HB.out))) : w.heap.size ≤ gb359));clear HB;have HB:=n0_;have BK359:=n1_;have GW359:=n2_;have GE359:=n3_;clear n0_ n1_ n2_ n3_;clear hb hbox hg;have hcz5_0 : w4.cell? ⟨gb359,0,none⟩ = some (.string a0_0):=(c_ BK359.out 0).trans rfl;have hcz5_1 : w4.cell? ⟨gb359,1,none⟩ = some (.slice A0_1 l0_1.length c0_1):=(c_ BK359.out 1).trans rfl;have hfz5_0:=f_ BK359.out 0;have hfz5_1:=f_ BK359.out 1)|((with_reducible refine gate_callee (f:=8) rfl ?_);refine goesL_ (some 9) rfl rfl Tryd.func8 (by kernel_rfl) rfl #[.agg #[.string a0_0,.slice A0_1 l0_1.length c0_1],.int .i64 1048576] rfl (by (try simp only [List.map_toArray,List.map_cons,List.map_nil]);first|done|rfl|(simp only [List.length_drop,List.length_take];rfl)) ?_;(with_reducible refine (laws_szStream.calls k a0_0 _ _ l0_1 1048576 t360 _ ?side1 ?side2 A2.out).mono ?_);(case side1=>repeat (first|exact (Kd.C_below HR0_1.out HB.out)|(with_reducible refine Kd.C_alloc ?_ _)|(with_reducible refine Kd.C_drewN ?_ _)|(with_reducible refine Kd.C_drew ?_)));(case side2=>exact HC0_1.out);rintro e w6 ⟨rfl,hb⟩;refine ⟨_,rfl,?_⟩;have n0_:=m_ (blk_below (g:=gb359) (o:=.cells #[.string a0_0,.slice A0_1 l0_1.length c0_1] 24 (0,0)) (by (with_reducible repeat first|apply b1_|apply b2_|apply b3_);exact BK359.out) hb);have n1_:=m_ (l5_ (by repeat (first|(with_reducible first|exact HB.out|apply l1_|apply l2_|apply l3_|refine l4_ ?_ GE359.out)|exact HB.out)) hb);clear BK359;clear HB;have BK359:=n0_;have HB:=n1_;clear n0_ n1_;(try clear hb);(try clear hb2);(try clear hk);(try clear hi)))
  go_ret
  exact ⟨by first|rfl|(simp [e1_,e2_] <;> rfl)|(simp [*,e1_,e2_] <;> rfl)|(simp [e1_,e2_,pk_empty1,pk_empty2];done)|(simp [*,e1_,e2_,pk_empty1,pk_empty2];done),by repeat (first|(with_reducible first|exact HB.out|apply l1_|apply l2_|apply l3_|refine l4_ ?_ GE359.out)|exact HB.out)⟩
 ·rw [if_neg c3] at H
  have c3b0 : decide (t360 < 0) = false:=decide_eq_false c3
  clear c3
  replace H:=Option.bind_eq_some_iff.mp H
  obtain ⟨⟨t361,t362⟩,A70,H⟩:=H
  replace H : ((spec_StreamOut.f k t361 t362).bind fun t365=>((laws_toStream.f k a0_0 l0_1).bind fun bt366=>((impl_StreamOut.f k bt366.1 bt366.2).bind fun t371=>(if t371.toList = t365.toList then ((laws_toStream.f k a0_0 l0_1).bind fun bt372=>((laws_eqStream.f k bt366.1 bt366.2 bt372.1 bt372.2).bind fun t376=>(if t376 = true then (some true) else (some false)))) else (some false))))) = some r:=H
  have A7:=m_ A70
  clear A70
  replace H:=Option.bind_eq_some_iff.mp H
  obtain ⟨t365,A80,H⟩:=H
  replace H : ((laws_toStream.f k a0_0 l0_1).bind fun bt366=>((impl_StreamOut.f k bt366.1 bt366.2).bind fun t371=>(if t371.toList = t365.toList then ((laws_toStream.f k a0_0 l0_1).bind fun bt372=>((laws_eqStream.f k bt366.1 bt366.2 bt372.1 bt372.2).bind fun t376=>(if t376 = true then (some true) else (some false)))) else (some false)))) = some r:=H
  have A8:=m_ A80
  clear A80
  replace H:=Option.bind_eq_some_iff.mp H
  obtain ⟨⟨t366,t367⟩,A90,H⟩:=H
  replace H : ((impl_StreamOut.f k t366 t367).bind fun t371=>(if t371.toList = t365.toList then ((laws_toStream.f k a0_0 l0_1).bind fun bt372=>((laws_eqStream.f k t366 t367 bt372.1 bt372.2).bind fun t376=>(if t376 = true then (some true) else (some false)))) else (some false))) = some r:=H
  have A9:=m_ A90
  clear A90
  replace H:=Option.bind_eq_some_iff.mp H
  obtain ⟨t371,A100,H⟩:=H
  replace H : (if t371.toList = t365.toList then ((laws_toStream.f k a0_0 l0_1).bind fun bt372=>((laws_eqStream.f k t366 t367 bt372.1 bt372.2).bind fun t376=>(if t376 = true then (some true) else (some false)))) else (some false)) = some r:=H
  have A10:=m_ A100
  clear A100
  by_cases c11 : t371.toList = t365.toList
  ·rw [if_pos c11] at H
   have c11b0 : (t371.toList == t365.toList) = true:=beq_iff_eq.mpr c11
   have c11b1 : (t371.toList != t365.toList) = false:=bne_eq_false_iff_eq.mpr c11
   clear c11
   replace H:=Option.bind_eq_some_iff.mp H
   obtain ⟨⟨t372,t373⟩,A120,H⟩:=H
   replace H : ((laws_eqStream.f k t366 t367 t372 t373).bind fun t376=>(if t376 = true then (some true) else (some false))) = some r:=H
   have A12:=m_ A120
   clear A120
   replace H:=Option.bind_eq_some_iff.mp H
   obtain ⟨t376,A130,H⟩:=H
   replace H : (if t376 = true then (some true) else (some false)) = some r:=H
   have A13:=m_ A130
   clear A130
   by_cases c14 : t376 = true
   ·subst c14
    have H1 : (some true) = some r:=by rw [if_pos rfl] at H;exact H
    clear H
    have H:=H1
    clear H1
    obtain rfl:=Option.some.inj H
    go_enter Tryd.func5,Tryd.ntmps5
    try go_wp2_with (first|((with_reducible refine gate_dst (N:=1) rfl ?_);refine box_event ?hg (N:=1) ?hd (cs:=#[.string a0_0,.slice A0_1 l0_1.length c0_1]) (t:=24) ?hr ?_;(case hd=>rfl);(case hg=>rfl);(case hr=>first|(go_simp;done)|(go_simp;rfl));intro gb359 hg w15 hbox hb;have n0_:=m_ (l5_ (by repeat (first|(with_reducible first|exact HB.out|apply l1_|apply l2_|apply l3_)|exact HB.out)) hb);have n1_:=m_ (hbox);have n2_:=m_ ((by rw [hg];exact (l6_ (by repeat (first|(with_reducible first|exact HB.out|apply l1_|apply l2_|apply l3_)|exact HB.out))) : w.heap.size ≤ gb359));have n3_:=m_ ((by rw [hg];exact (l6_ (by repeat (first|(with_reducible first|exact HB.out|apply l1_|apply l2_|apply l3_)|exact HB.out))) : w.heap.size ≤ gb359));clear HB;have HB:=n0_;have BK359:=n1_;have GW359:=n2_;have GE359:=n3_;clear n0_ n1_ n2_ n3_;clear hb hbox hg;have hcz16_0 : w15.cell? ⟨gb359,0,none⟩ = some (.string a0_0):=(c_ BK359.out 0).trans rfl;have hcz16_1 : w15.cell? ⟨gb359,1,none⟩ = some (.slice A0_1 l0_1.length c0_1):=(c_ BK359.out 1).trans rfl;have hfz16_0:=f_ BK359.out 0;have hfz16_1:=f_ BK359.out 1)|((with_reducible refine gate_callee (f:=8) rfl ?_);refine goesL_ (some 9) rfl rfl Tryd.func8 (by kernel_rfl) rfl #[.agg #[.string a0_0,.slice A0_1 l0_1.length c0_1],.int .i64 1048576] rfl (by (try simp only [List.map_toArray,List.map_cons,List.map_nil]);first|done|rfl|(simp only [List.length_drop,List.length_take];rfl)) ?_;(with_reducible refine (laws_szStream.calls k a0_0 _ _ l0_1 1048576 t360 _ ?side1 ?side2 A2.out).mono ?_);(case side1=>repeat (first|exact (Kd.C_below HR0_1.out HB.out)|(with_reducible refine Kd.C_alloc ?_ _)|(with_reducible refine Kd.C_drewN ?_ _)|(with_reducible refine Kd.C_drew ?_)));(case side2=>exact HC0_1.out);rintro e w17 ⟨rfl,hb⟩;refine ⟨_,rfl,?_⟩;have n0_:=m_ (blk_below (g:=gb359) (o:=.cells #[.string a0_0,.slice A0_1 l0_1.length c0_1] 24 (0,0)) (by (with_reducible repeat first|apply b1_|apply b2_|apply b3_);exact BK359.out) hb);have n1_:=m_ (l5_ (by repeat (first|(with_reducible first|exact HB.out|apply l1_|apply l2_|apply l3_|refine l4_ ?_ GE359.out)|exact HB.out)) hb);clear BK359;clear HB;have BK359:=n0_;have HB:=n1_;clear n0_ n1_;(try clear hb);(try clear hb2);(try clear hk);(try clear hi);have hcz18_0 : w17.cell? ⟨gb359,0,none⟩ = some (.string a0_0):=(c_ BK359.out 0).trans rfl;have hcz18_1 : w17.cell? ⟨gb359,1,none⟩ = some (.slice A0_1 l0_1.length c0_1):=(c_ BK359.out 1).trans rfl;have hfz18_0:=f_ BK359.out 0;have hfz18_1:=f_ BK359.out 1)|((with_reducible refine gate_callee (f:=10) rfl ?_);refine goesL_ (some 13) rfl rfl Tryd.func10 (by kernel_rfl) rfl #[.agg #[.string a0_0,.slice A0_1 l0_1.length c0_1]] rfl (by (try simp only [List.map_toArray,List.map_cons,List.map_nil]);first|done|rfl|(simp only [List.length_drop,List.length_take];rfl)) ?_;(with_reducible refine (laws_toStream.calls k a0_0 _ _ l0_1 t361 t362 _ ?side1 ?side2 A7.out).mono ?_);(case side1=>repeat (first|exact (Kd.C_below HR0_1.out HB.out)|(with_reducible refine Kd.C_alloc ?_ _)|(with_reducible refine Kd.C_drewN ?_ _)|(with_reducible refine Kd.C_drew ?_)));(case side2=>exact HC0_1.out);rintro e w19 ⟨v363,rfl,ho0,hb⟩;refine ⟨_,rfl,?_⟩;have n0_:=m_ (Kd.R_lower ho0 (l6_ (by repeat (first|(with_reducible first|exact HB.out|apply l1_|apply l2_|apply l3_|refine l4_ ?_ GE359.out)|exact HB.out))));have n1_:=m_ (blk_below (g:=gb359) (o:=.cells #[.string a0_0,.slice A0_1 l0_1.length c0_1] 24 (0,0)) (by (with_reducible repeat first|apply b1_|apply b2_|apply b3_);exact BK359.out) hb);have n2_:=m_ (l5_ (by repeat (first|(with_reducible first|exact HB.out|apply l1_|apply l2_|apply l3_|refine l4_ ?_ GE359.out)|exact HB.out)) hb);clear BK359;clear HB;have HO364:=n0_;have BK359:=n1_;have HB:=n2_;clear n0_ n1_ n2_;(try clear hb);(try clear hb2);(try clear hk);(try clear hi);(try clear ho0);obtain ⟨Ao20,co20,eo20⟩:=Kd.R_slice HO364.out;subst eo20)|((with_reducible refine gate_callee (f:=15) rfl ?_);refine goesL_ (some 14) rfl rfl Tryd.func15 (by kernel_rfl) rfl #[.agg #[.string t361,.slice Ao20 t362.length co20]] rfl (by (try simp only [List.map_toArray,List.map_cons,List.map_nil]);first|done|rfl|(simp only [List.length_drop,List.length_take];rfl)) ?_;(with_reducible refine (spec_StreamOut.calls k t361 _ _ t362 t365 _ ?side1 ?side2 A8.out).mono ?_);(case side1=>repeat (first|exact (Kd.R_reads' HO364.out).2.2|(with_reducible refine Kd.C_alloc ?_ _)|(with_reducible refine Kd.C_drewN ?_ _)|(with_reducible refine Kd.C_drew ?_)));(case side2=>exact (Kd.R_reads' HO364.out).2.1);rintro e w21 ⟨rfl,hb⟩;refine ⟨_,rfl,?_⟩;have n0_:=m_ (Kd.R_below (by (with_reducible repeat (first|apply Kd.R_alloc|apply Kd.R_drewN|apply Kd.R_drew));exact HO364.out) hb);have n1_:=m_ (blk_below (g:=gb359) (o:=.cells #[.string a0_0,.slice A0_1 l0_1.length c0_1] 24 (0,0)) (by (with_reducible repeat first|apply b1_|apply b2_|apply b3_);exact BK359.out) hb);have n2_:=m_ (l5_ (by repeat (first|(with_reducible first|exact HB.out|apply l1_|apply l2_|apply l3_|refine l4_ ?_ GE359.out)|exact HB.out)) hb);clear HO364;clear BK359;clear HB;have HO364:=n0_;have BK359:=n1_;have HB:=n2_;clear n0_ n1_ n2_;(try clear hb);(try clear hb2);(try clear hk);(try clear hi);have hcz22_0 : w21.cell? ⟨gb359,0,none⟩ = some (.string a0_0):=(c_ BK359.out 0).trans rfl;have hcz22_1 : w21.cell? ⟨gb359,1,none⟩ = some (.slice A0_1 l0_1.length c0_1):=(c_ BK359.out 1).trans rfl;have hfz22_0:=f_ BK359.out 0;have hfz22_1:=f_ BK359.out 1)|((with_reducible refine gate_callee (f:=10) rfl ?_);refine goesL_ (some 16) rfl rfl Tryd.func10 (by kernel_rfl) rfl #[.agg #[.string a0_0,.slice A0_1 l0_1.length c0_1]] rfl (by (try simp only [List.map_toArray,List.map_cons,List.map_nil]);first|done|rfl|(simp only [List.length_drop,List.length_take];rfl)) ?_;(with_reducible refine (laws_toStream.calls k a0_0 _ _ l0_1 t366 t367 _ ?side1 ?side2 A9.out).mono ?_);(case side1=>repeat (first|exact (Kd.C_below HR0_1.out HB.out)|(with_reducible refine Kd.C_alloc ?_ _)|(with_reducible refine Kd.C_drewN ?_ _)|(with_reducible refine Kd.C_drew ?_)));(case side2=>exact HC0_1.out);rintro e w23 ⟨v368,rfl,ho0,hb⟩;refine ⟨_,rfl,?_⟩;have n0_:=m_ (Kd.R_elder' (by (with_reducible repeat (first|apply Kd.R_alloc|apply Kd.R_drewN|apply Kd.R_drew));exact HO364.out) (Kd.R_base ho0) hb);have n1_:=m_ (Kd.R_lower (Kd.R_new' ho0 (Kd.R_lt (by (with_reducible repeat (first|apply Kd.R_alloc|apply Kd.R_drewN|apply Kd.R_drew));exact HO364.out))) (l6_ (by repeat (first|(with_reducible first|exact HB.out|apply l1_|apply l2_|apply l3_|refine l4_ ?_ GE359.out)|exact HB.out))));have n2_:=m_ (blk_below (g:=gb359) (o:=.cells #[.string a0_0,.slice A0_1 l0_1.length c0_1] 24 (0,0)) (by (with_reducible repeat first|apply b1_|apply b2_|apply b3_);exact BK359.out) hb);have n3_:=m_ (l5_ (by repeat (first|(with_reducible first|exact HB.out|apply l1_|apply l2_|apply l3_|refine l4_ ?_ GE359.out)|exact HB.out)) hb);clear HO364;clear BK359;clear HB;have HO364:=n0_;have HO369:=n1_;have BK359:=n2_;have HB:=n3_;clear n0_ n1_ n2_ n3_;(try clear hb);(try clear hb2);(try clear hk);(try clear hi);(try clear ho0))|((with_reducible refine gate_dst (N:=5) rfl ?_);refine box_event ?hg (N:=5) ?hd (cs:=#[.string (⟨#[]⟩ : ByteArray),.slice none 0 0]) (t:=29) ?hr ?_;(case hd=>rfl);(case hg=>rfl);(case hr=>first|(go_simp;done)|(go_simp;rfl));intro gb370 hg w24 hbox hb;have n0_:=m_ (Kd.R_below (by (with_reducible repeat (first|apply Kd.R_alloc|apply Kd.R_drewN|apply Kd.R_drew));exact HO364.out) hb);have n1_:=m_ (Kd.R_below (by (with_reducible repeat (first|apply Kd.R_alloc|apply Kd.R_drewN|apply Kd.R_drew));exact HO369.out) hb);have n2_:=m_ (blk_below (g:=gb359) (o:=.cells #[.string a0_0,.slice A0_1 l0_1.length c0_1] 24 (0,0)) (by (with_reducible repeat first|apply b1_|apply b2_|apply b3_);exact BK359.out) hb);have n3_:=m_ (l5_ (by repeat (first|(with_reducible first|exact HB.out|apply l1_|apply l2_|apply l3_|refine l4_ ?_ GE359.out)|exact HB.out)) hb);have n4_:=m_ (hbox);have n5_:=m_ ((by rw [hg];exact (l6_ (by repeat (first|(with_reducible first|exact HB.out|apply l1_|apply l2_|apply l3_|refine l4_ ?_ GE359.out)|exact HB.out))) : w.heap.size ≤ gb370));have n6_:=n5_;have n7_:=m_ ((by rw [hg];exact Nat.ne_of_lt (blk_lt (g:=gb359) (o:=.cells #[.string a0_0,.slice A0_1 l0_1.length c0_1] 24 (0,0)) (by (with_reducible repeat first|apply b1_|apply b2_|apply b3_);exact BK359.out)) : gb359 ≠ gb370));have n8_:=m_ ((by rw [hg];exact Nat.ne_of_gt (blk_lt (g:=gb359) (o:=.cells #[.string a0_0,.slice A0_1 l0_1.length c0_1] 24 (0,0)) (by (with_reducible repeat first|apply b1_|apply b2_|apply b3_);exact BK359.out)) : gb370 ≠ gb359));clear HO364;clear HO369;clear BK359;clear HB;have HO364:=n0_;have HO369:=n1_;have BK359:=n2_;have HB:=n3_;have BK370:=n4_;have GW370:=n5_;have GE370:=n6_;have NB359_370:=n7_;have NB370_359:=n8_;clear n0_ n1_ n2_ n3_ n4_ n5_ n6_ n7_ n8_;clear hb hbox hg;have hnb25:=NB370_359.out;have hnc25:=NB359_370.out;have hcz26_0 : w24.cell? ⟨gb370,0,none⟩ = some (.string (⟨#[]⟩ : ByteArray)):=(c_ BK370.out 0).trans rfl;have hcz26_1 : w24.cell? ⟨gb370,1,none⟩ = some (.slice none 0 0):=(c_ BK370.out 1).trans rfl;have hfz26_0:=f_ BK370.out 0;have hfz26_1:=f_ BK370.out 1;obtain ⟨Ao27,co27,eo27⟩:=Kd.R_slice HO369.out;subst eo27)|((with_reducible refine gate_callee (f:=16) rfl ?_);refine goesL_ (some 18) rfl rfl Tryd.func16 (by kernel_rfl) rfl #[.agg #[.string t366,.slice Ao27 t367.length co27]] rfl (by (try simp only [List.map_toArray,List.map_cons,List.map_nil]);first|done|rfl|(simp only [List.length_drop,List.length_take];rfl)) ?_;(with_reducible refine (impl_StreamOut.calls k t366 _ _ t367 t371 _ ?side1 ?side2 ?side3 A10.out).mono ?_);(case side1=>refine (Kd.R_reads' (e:=41) (base:=w.heap.size) (ok:=fun k_=>(True ∧ some k_ ≠ (.slice Ao20 t362.length co20 : Value).ownBlock)) (n:=t367.length) (c:=co27) ?_).2.2;exact (by (with_reducible repeat (first|apply Kd.R_alloc|apply Kd.R_drewN|apply Kd.R_drew));exact (Kd.R_mono (Kd.R_far (p:=⟨gb370,1,none⟩) (Kd.R_far (p:=⟨gb370,0,none⟩) (Kd.R_types HO369.out BK370.out (by decide)) (fun _ hk=>hk.2) (.string t366)) (fun _ hk=>hk.2) (.slice Ao27 t367.length co27)) (fun _ h_=>h_.1))));(case side2=>exact (Kd.R_reads' HO369.out).2.1);(case side3=>first|(with_reducible exact HG.out)|exact GV_below HG.out (by repeat (first|(with_reducible first|exact HB.out|apply l1_|apply l2_|apply l3_|refine l4_ ?_ GE359.out|refine l4_ ?_ GE370.out)|exact HB.out)));rintro e w28 ⟨rfl,hb⟩;refine ⟨_,rfl,?_⟩;have n0_:=m_ (Kd.R_below (by (with_reducible repeat (first|apply Kd.R_alloc|apply Kd.R_drewN|apply Kd.R_drew));exact (Kd.R_mono (Kd.R_far (p:=⟨gb370,1,none⟩) (Kd.R_far (p:=⟨gb370,0,none⟩) (Kd.R_types HO364.out BK370.out (by decide)) (fun _ hk=>hk.2) (.string t366)) (fun _ hk=>hk.2) (.slice Ao27 t367.length co27)) (fun _ h_=>h_.1))) hb);have n1_:=m_ (Kd.R_below (by (with_reducible repeat (first|apply Kd.R_alloc|apply Kd.R_drewN|apply Kd.R_drew));exact (Kd.R_mono (Kd.R_far (p:=⟨gb370,1,none⟩) (Kd.R_far (p:=⟨gb370,0,none⟩) (Kd.R_types HO369.out BK370.out (by decide)) (fun _ hk=>hk.2) (.string t366)) (fun _ hk=>hk.2) (.slice Ao27 t367.length co27)) (fun _ h_=>h_.1))) hb);have n2_:=m_ (blk_below (g:=gb359) (o:=.cells #[.string a0_0,.slice A0_1 l0_1.length c0_1] 24 (0,0)) (by (with_reducible repeat first|apply b1_|apply b2_|apply b3_);refine b4_ ?_ NB359_370.out _;(with_reducible repeat first|apply b1_|apply b2_|apply b3_);refine b4_ ?_ NB359_370.out _;(with_reducible repeat first|apply b1_|apply b2_|apply b3_);exact BK359.out) hb);have n3_:=m_ (blk_below (g:=gb370) (o:=.cells #[.string t366,.slice Ao27 t367.length co27] 29 (0,0)) (by (with_reducible repeat first|apply b1_|apply b2_|apply b3_);refine blk_put (cs:=#[.string t366,.slice none 0 0]) ?_ 1 _ rfl;(with_reducible repeat first|apply b1_|apply b2_|apply b3_);refine blk_put (cs:=#[.string (⟨#[]⟩ : ByteArray),.slice none 0 0]) ?_ 0 _ rfl;(with_reducible repeat first|apply b1_|apply b2_|apply b3_);exact BK370.out) hb);have n4_:=m_ (l5_ (by repeat (first|(with_reducible first|exact HB.out|apply l1_|apply l2_|apply l3_|refine l4_ ?_ GE359.out|refine l4_ ?_ GE370.out)|exact HB.out)) hb);clear HO364;clear HO369;clear BK359;clear BK370;clear HB;have HO364:=n0_;have HO369:=n1_;have BK359:=n2_;have BK370:=n3_;have HB:=n4_;clear n0_ n1_ n2_ n3_ n4_;(try clear hb);(try clear hb2);(try clear hk);(try clear hi)))
    have n0_:=m_ (Kd.R_drew HO364.out)
    have n1_:=m_ (Kd.R_drew HO369.out)
    have n2_:=m_ (b2_ BK359.out)
    have n3_:=m_ (b2_ BK370.out)
    have n4_:=m_ (l3_ HB.out)
    clear HO364
    clear HO369
    clear BK359
    clear BK370
    clear HB
    have HO364:=n0_
    have HO369:=n1_
    have BK359:=n2_
    have BK370:=n3_
    have HB:=n4_
    clear n0_ n1_ n2_ n3_ n4_
    refine start_ (n:=5) (S:=fun w'=>w'.cell? ⟨gb370,0,none⟩ = some (.string t366) ∧ w'.cell? ⟨gb370,1,none⟩ = some (.slice Ao27 t367.length co27) ∧ w'.cell? ⟨gb359,0,none⟩ = some (.string a0_0) ∧ w'.cell? ⟨gb359,1,none⟩ = some (.slice A0_1 l0_1.length c0_1)) (ds:=[]) #[false,false,false,false,false] (by kernel_rfl) rfl rfl ⟨(c_ BK370.out 0).trans rfl,(c_ BK370.out 1).trans rfl,(c_ BK359.out 0).trans rfl,(c_ BK359.out 1).trans rfl⟩ (fun hHeld=>?_)
    generalize w28.drew = w29 at HO364 HO369 BK359 BK370 HB hHeld ⊢
    refine take_ (i:=0) (N:=some 22) (v:=?_) (a':=?_) #[true,false,false,false,false] rfl rfl (by kernel_rfl) (fun _ _ _ h=>h) (Or.inl ⟨by rfl,?_⟩) hHeld ?_ ?_
    rotate_left
    ·rintro w' ⟨s0,s1,s2,s3⟩
     go_simp
     with_reducible rfl
    rotate_left
    ·simp only [Act.put,s1_,s2_,s3_,i64_w,i32_w]
     rfl
    refine take_ (i:=1) (N:=some 23) (v:=?_) (a':=?_) #[true,true,false,false,false] rfl rfl (by kernel_rfl) (fun _ _ _ h=>h) (Or.inl ⟨by rfl,?_⟩) hHeld ?_ ?_
    rotate_left
    ·rintro w' ⟨s0,s1,s2,s3⟩
     go_simp
     with_reducible rfl
    rotate_left
    ·simp only [Act.put,s1_,s2_,s3_,i64_w,i32_w]
     rfl
    refine one_ (i:=2) (N:=some 24) #[true,true,true,false,false] rfl rfl (by kernel_rfl) (by decide) (fun K hK=>?_)
    refine goes_ Tryd.func10 (by kernel_rfl) rfl #[.agg #[.string a0_0,.slice A0_1 l0_1.length c0_1]] (by rfl) rfl rfl (by (try simp only [List.map_toArray,List.map_cons,List.map_nil]);first|done|rfl|(simp only [List.length_drop,List.length_take];rfl)) ?_
    with_reducible refine (laws_toStream.calls k a0_0 _ _ l0_1 t372 t373 _ ?side1 ?side2 A12.out).mono ?_
    (case side1=>repeat (first|exact (Kd.C_below HR0_1.out HB.out)|(with_reducible refine Kd.C_alloc ?_ _)|(with_reducible refine Kd.C_drewN ?_ _)|(with_reducible refine Kd.C_drew ?_)))
    (case side2=>exact HC0_1.out)
    rintro e w30 ⟨v374,rfl,ho0,hb⟩
    refine ⟨_,rfl,?_⟩
    have n0_:=m_ (Kd.R_elder' (by (with_reducible repeat (first|apply Kd.R_alloc|apply Kd.R_drewN|apply Kd.R_drew));exact HO364.out) (Kd.R_base ho0) hb)
    have n1_:=m_ (Kd.R_elder' (by (with_reducible repeat (first|apply Kd.R_alloc|apply Kd.R_drewN|apply Kd.R_drew));exact HO369.out) (Kd.R_base ho0) hb)
    have n2_:=m_ (Kd.R_lower (Kd.R_new' (Kd.R_new' ho0 (Kd.R_lt (by (with_reducible repeat (first|apply Kd.R_alloc|apply Kd.R_drewN|apply Kd.R_drew));exact HO364.out))) (Kd.R_lt (by (with_reducible repeat (first|apply Kd.R_alloc|apply Kd.R_drewN|apply Kd.R_drew));exact HO369.out))) (l6_ (by repeat (first|(with_reducible first|exact HB.out|apply l1_|apply l2_|apply l3_|refine l4_ ?_ GE359.out|refine l4_ ?_ GE370.out)|exact HB.out))))
    have n3_:=m_ (blk_below (g:=gb359) (o:=.cells #[.string a0_0,.slice A0_1 l0_1.length c0_1] 24 (0,0)) (by (with_reducible repeat first|apply b1_|apply b2_|apply b3_);exact BK359.out) hb)
    have n4_:=m_ (blk_below (g:=gb370) (o:=.cells #[.string t366,.slice Ao27 t367.length co27] 29 (0,0)) (by (with_reducible repeat first|apply b1_|apply b2_|apply b3_);exact BK370.out) hb)
    have n5_:=m_ (l5_ (by repeat (first|(with_reducible first|exact HB.out|apply l1_|apply l2_|apply l3_|refine l4_ ?_ GE359.out|refine l4_ ?_ GE370.out)|exact HB.out)) hb)
    clear HO364
    clear HO369
    clear BK359
    clear BK370
    clear HB
    have HO364:=n0_
    have HO369:=n1_
    have HO375:=n2_
    have BK359:=n3_
    have BK370:=n4_
    have HB:=n5_
    clear n0_ n1_ n2_ n3_ n4_ n5_
    (try clear hb)
    (try clear hb2)
    (try clear hk)
    (try clear hi)
    (try clear ho0)
    obtain ⟨Ao31,co31,eo31⟩:=Kd.R_slice HO375.out
    (first|subst eo31|(injection eo31 with f1_ f2_ f3_;have f4_:=f1_.symm;have f5_:=f3_.symm;clear f1_ f2_ f3_;subst f4_;subst f5_))
    refine hK.out _ _ ⟨(c_ BK370.out 0).trans rfl,(c_ BK370.out 1).trans rfl,(c_ BK359.out 0).trans rfl,(c_ BK359.out 1).trans rfl⟩ (fun hHeld=>?_)
    clear hK K
    refine norm_ (a':=?_) ?_ ?_
    rotate_left
    ·show Act.put _ (some 24) _ = _
     simp only [Act.put,s1_,s2_,s3_,i64_w,i32_w]
     rfl
    refine one_ (i:=3) (N:=some 25) #[true,true,true,true,false] rfl rfl (by kernel_rfl) (by decide) (fun K hK=>?_)
    refine goes_ Tryd.func12 (by kernel_rfl) rfl #[.agg #[.string t366,.slice Ao27 t367.length co27],.agg #[.string t372,.slice Ao31 t373.length co31]] (by rfl) rfl rfl (by (try simp only [List.map_toArray,List.map_cons,List.map_nil]);first|done|rfl|(simp only [List.length_drop,List.length_take];rfl)) ?_
    with_reducible refine (laws_eqStream.calls k t366 _ _ t367 t372 _ _ t373 true _ ?side1 ?side2 ?side3 ?side4 A13.out).mono ?_
    (case side1=>repeat (first|exact (Kd.R_reads' HO369.out).2.2|(with_reducible refine Kd.C_alloc ?_ _)|(with_reducible refine Kd.C_drewN ?_ _)|(with_reducible refine Kd.C_drew ?_)))
    (case side2=>exact (Kd.R_reads' HO369.out).2.1)
    (case side3=>repeat (first|exact (Kd.R_reads' HO375.out).2.2|(with_reducible refine Kd.C_alloc ?_ _)|(with_reducible refine Kd.C_drewN ?_ _)|(with_reducible refine Kd.C_drew ?_)))
    (case side4=>exact (Kd.R_reads' HO375.out).2.1)
    rintro e w32 ⟨rfl,hb⟩
    refine ⟨_,rfl,?_⟩
    have n0_:=m_ (Kd.R_below (by (with_reducible repeat (first|apply Kd.R_alloc|apply Kd.R_drewN|apply Kd.R_drew));exact HO364.out) hb)
    have n1_:=m_ (Kd.R_below (by (with_reducible repeat (first|apply Kd.R_alloc|apply Kd.R_drewN|apply Kd.R_drew));exact HO369.out) hb)
    have n2_:=m_ (Kd.R_below (by (with_reducible repeat (first|apply Kd.R_alloc|apply Kd.R_drewN|apply Kd.R_drew));exact HO375.out) hb)
    have n3_:=m_ (blk_below (g:=gb359) (o:=.cells #[.string a0_0,.slice A0_1 l0_1.length c0_1] 24 (0,0)) (by (with_reducible repeat first|apply b1_|apply b2_|apply b3_);exact BK359.out) hb)
    have n4_:=m_ (blk_below (g:=gb370) (o:=.cells #[.string t366,.slice Ao27 t367.length co27] 29 (0,0)) (by (with_reducible repeat first|apply b1_|apply b2_|apply b3_);exact BK370.out) hb)
    have n5_:=m_ (l5_ (by repeat (first|(with_reducible first|exact HB.out|apply l1_|apply l2_|apply l3_|refine l4_ ?_ GE359.out|refine l4_ ?_ GE370.out)|exact HB.out)) hb)
    clear HO364
    clear HO369
    clear HO375
    clear BK359
    clear BK370
    clear HB
    have HO364:=n0_
    have HO369:=n1_
    have HO375:=n2_
    have BK359:=n3_
    have BK370:=n4_
    have HB:=n5_
    clear n0_ n1_ n2_ n3_ n4_ n5_
    (try clear hb)
    (try clear hb2)
    (try clear hk)
    (try clear hi)
    refine hK.out _ _ ⟨(c_ BK370.out 0).trans rfl,(c_ BK370.out 1).trans rfl,(c_ BK359.out 0).trans rfl,(c_ BK359.out 1).trans rfl⟩ (fun hHeld=>?_)
    clear hK K
    refine norm_ (a':=?_) ?_ ?_
    rotate_left
    ·show Act.put _ (some 25) _ = _
     simp only [Act.put,s1_,s2_,s3_,i64_w,i32_w]
     rfl
    refine pure_ (i:=4) (N:=some 26) (v:=?_) (a':=?_) #[true,true,true,true,true] rfl rfl (by kernel_rfl) (fun _ _ _ h=>h) (Or.inl ⟨by rfl,?_⟩) ?_ ?_
    rotate_left
    ·intro w'
     go_simp
     with_reducible rfl
    rotate_left
    ·simp only [Act.put,s1_,s2_,s3_,i64_w,i32_w]
     rfl
    refine done_ (by kernel_rfl) ?_
    try go_wp2
    go_ret
    exact ⟨by first|rfl|(simp [e1_,e2_] <;> rfl)|(simp [*,e1_,e2_] <;> rfl)|(simp [e1_,e2_,pk_empty1,pk_empty2];done)|(simp [*,e1_,e2_,pk_empty1,pk_empty2];done),by repeat (first|(with_reducible first|exact HB.out|apply l1_|apply l2_|apply l3_|refine l4_ ?_ GE359.out|refine l4_ ?_ GE370.out)|exact HB.out)⟩
   ·replace c14:=Bool.eq_false_iff.mpr c14
    subst c14
    have H1 : (some false) = some r:=by rw [if_neg (show ¬ (false = true) by decide)] at H;exact H
    clear H
    have H:=H1
    clear H1
    obtain rfl:=Option.some.inj H
    go_enter Tryd.func5,Tryd.ntmps5
    try go_wp2_with (first|((with_reducible refine gate_dst (N:=1) rfl ?_);refine box_event ?hg (N:=1) ?hd (cs:=#[.string a0_0,.slice A0_1 l0_1.length c0_1]) (t:=24) ?hr ?_;(case hd=>rfl);(case hg=>rfl);(case hr=>first|(go_simp;done)|(go_simp;rfl));intro gb359 hg w33 hbox hb;have n0_:=m_ (l5_ (by repeat (first|(with_reducible first|exact HB.out|apply l1_|apply l2_|apply l3_)|exact HB.out)) hb);have n1_:=m_ (hbox);have n2_:=m_ ((by rw [hg];exact (l6_ (by repeat (first|(with_reducible first|exact HB.out|apply l1_|apply l2_|apply l3_)|exact HB.out))) : w.heap.size ≤ gb359));have n3_:=m_ ((by rw [hg];exact (l6_ (by repeat (first|(with_reducible first|exact HB.out|apply l1_|apply l2_|apply l3_)|exact HB.out))) : w.heap.size ≤ gb359));clear HB;have HB:=n0_;have BK359:=n1_;have GW359:=n2_;have GE359:=n3_;clear n0_ n1_ n2_ n3_;clear hb hbox hg;have hcz34_0 : w33.cell? ⟨gb359,0,none⟩ = some (.string a0_0):=(c_ BK359.out 0).trans rfl;have hcz34_1 : w33.cell? ⟨gb359,1,none⟩ = some (.slice A0_1 l0_1.length c0_1):=(c_ BK359.out 1).trans rfl;have hfz34_0:=f_ BK359.out 0;have hfz34_1:=f_ BK359.out 1)|((with_reducible refine gate_callee (f:=8) rfl ?_);refine goesL_ (some 9) rfl rfl Tryd.func8 (by kernel_rfl) rfl #[.agg #[.string a0_0,.slice A0_1 l0_1.length c0_1],.int .i64 1048576] rfl (by (try simp only [List.map_toArray,List.map_cons,List.map_nil]);first|done|rfl|(simp only [List.length_drop,List.length_take];rfl)) ?_;(with_reducible refine (laws_szStream.calls k a0_0 _ _ l0_1 1048576 t360 _ ?side1 ?side2 A2.out).mono ?_);(case side1=>repeat (first|exact (Kd.C_below HR0_1.out HB.out)|(with_reducible refine Kd.C_alloc ?_ _)|(with_reducible refine Kd.C_drewN ?_ _)|(with_reducible refine Kd.C_drew ?_)));(case side2=>exact HC0_1.out);rintro e w35 ⟨rfl,hb⟩;refine ⟨_,rfl,?_⟩;have n0_:=m_ (blk_below (g:=gb359) (o:=.cells #[.string a0_0,.slice A0_1 l0_1.length c0_1] 24 (0,0)) (by (with_reducible repeat first|apply b1_|apply b2_|apply b3_);exact BK359.out) hb);have n1_:=m_ (l5_ (by repeat (first|(with_reducible first|exact HB.out|apply l1_|apply l2_|apply l3_|refine l4_ ?_ GE359.out)|exact HB.out)) hb);clear BK359;clear HB;have BK359:=n0_;have HB:=n1_;clear n0_ n1_;(try clear hb);(try clear hb2);(try clear hk);(try clear hi);have hcz36_0 : w35.cell? ⟨gb359,0,none⟩ = some (.string a0_0):=(c_ BK359.out 0).trans rfl;have hcz36_1 : w35.cell? ⟨gb359,1,none⟩ = some (.slice A0_1 l0_1.length c0_1):=(c_ BK359.out 1).trans rfl;have hfz36_0:=f_ BK359.out 0;have hfz36_1:=f_ BK359.out 1)|((with_reducible refine gate_callee (f:=10) rfl ?_);refine goesL_ (some 13) rfl rfl Tryd.func10 (by kernel_rfl) rfl #[.agg #[.string a0_0,.slice A0_1 l0_1.length c0_1]] rfl (by (try simp only [List.map_toArray,List.map_cons,List.map_nil]);first|done|rfl|(simp only [List.length_drop,List.length_take];rfl)) ?_;(with_reducible refine (laws_toStream.calls k a0_0 _ _ l0_1 t361 t362 _ ?side1 ?side2 A7.out).mono ?_);(case side1=>repeat (first|exact (Kd.C_below HR0_1.out HB.out)|(with_reducible refine Kd.C_alloc ?_ _)|(with_reducible refine Kd.C_drewN ?_ _)|(with_reducible refine Kd.C_drew ?_)));(case side2=>exact HC0_1.out);rintro e w37 ⟨v363,rfl,ho0,hb⟩;refine ⟨_,rfl,?_⟩;have n0_:=m_ (Kd.R_lower ho0 (l6_ (by repeat (first|(with_reducible first|exact HB.out|apply l1_|apply l2_|apply l3_|refine l4_ ?_ GE359.out)|exact HB.out))));have n1_:=m_ (blk_below (g:=gb359) (o:=.cells #[.string a0_0,.slice A0_1 l0_1.length c0_1] 24 (0,0)) (by (with_reducible repeat first|apply b1_|apply b2_|apply b3_);exact BK359.out) hb);have n2_:=m_ (l5_ (by repeat (first|(with_reducible first|exact HB.out|apply l1_|apply l2_|apply l3_|refine l4_ ?_ GE359.out)|exact HB.out)) hb);clear BK359;clear HB;have HO364:=n0_;have BK359:=n1_;have HB:=n2_;clear n0_ n1_ n2_;(try clear hb);(try clear hb2);(try clear hk);(try clear hi);(try clear ho0);obtain ⟨Ao38,co38,eo38⟩:=Kd.R_slice HO364.out;subst eo38)|((with_reducible refine gate_callee (f:=15) rfl ?_);refine goesL_ (some 14) rfl rfl Tryd.func15 (by kernel_rfl) rfl #[.agg #[.string t361,.slice Ao38 t362.length co38]] rfl (by (try simp only [List.map_toArray,List.map_cons,List.map_nil]);first|done|rfl|(simp only [List.length_drop,List.length_take];rfl)) ?_;(with_reducible refine (spec_StreamOut.calls k t361 _ _ t362 t365 _ ?side1 ?side2 A8.out).mono ?_);(case side1=>repeat (first|exact (Kd.R_reads' HO364.out).2.2|(with_reducible refine Kd.C_alloc ?_ _)|(with_reducible refine Kd.C_drewN ?_ _)|(with_reducible refine Kd.C_drew ?_)));(case side2=>exact (Kd.R_reads' HO364.out).2.1);rintro e w39 ⟨rfl,hb⟩;refine ⟨_,rfl,?_⟩;have n0_:=m_ (Kd.R_below (by (with_reducible repeat (first|apply Kd.R_alloc|apply Kd.R_drewN|apply Kd.R_drew));exact HO364.out) hb);have n1_:=m_ (blk_below (g:=gb359) (o:=.cells #[.string a0_0,.slice A0_1 l0_1.length c0_1] 24 (0,0)) (by (with_reducible repeat first|apply b1_|apply b2_|apply b3_);exact BK359.out) hb);have n2_:=m_ (l5_ (by repeat (first|(with_reducible first|exact HB.out|apply l1_|apply l2_|apply l3_|refine l4_ ?_ GE359.out)|exact HB.out)) hb);clear HO364;clear BK359;clear HB;have HO364:=n0_;have BK359:=n1_;have HB:=n2_;clear n0_ n1_ n2_;(try clear hb);(try clear hb2);(try clear hk);(try clear hi);have hcz40_0 : w39.cell? ⟨gb359,0,none⟩ = some (.string a0_0):=(c_ BK359.out 0).trans rfl;have hcz40_1 : w39.cell? ⟨gb359,1,none⟩ = some (.slice A0_1 l0_1.length c0_1):=(c_ BK359.out 1).trans rfl;have hfz40_0:=f_ BK359.out 0;have hfz40_1:=f_ BK359.out 1)|((with_reducible refine gate_callee (f:=10) rfl ?_);refine goesL_ (some 16) rfl rfl Tryd.func10 (by kernel_rfl) rfl #[.agg #[.string a0_0,.slice A0_1 l0_1.length c0_1]] rfl (by (try simp only [List.map_toArray,List.map_cons,List.map_nil]);first|done|rfl|(simp only [List.length_drop,List.length_take];rfl)) ?_;(with_reducible refine (laws_toStream.calls k a0_0 _ _ l0_1 t366 t367 _ ?side1 ?side2 A9.out).mono ?_);(case side1=>repeat (first|exact (Kd.C_below HR0_1.out HB.out)|(with_reducible refine Kd.C_alloc ?_ _)|(with_reducible refine Kd.C_drewN ?_ _)|(with_reducible refine Kd.C_drew ?_)));(case side2=>exact HC0_1.out);rintro e w41 ⟨v368,rfl,ho0,hb⟩;refine ⟨_,rfl,?_⟩;have n0_:=m_ (Kd.R_elder' (by (with_reducible repeat (first|apply Kd.R_alloc|apply Kd.R_drewN|apply Kd.R_drew));exact HO364.out) (Kd.R_base ho0) hb);have n1_:=m_ (Kd.R_lower (Kd.R_new' ho0 (Kd.R_lt (by (with_reducible repeat (first|apply Kd.R_alloc|apply Kd.R_drewN|apply Kd.R_drew));exact HO364.out))) (l6_ (by repeat (first|(with_reducible first|exact HB.out|apply l1_|apply l2_|apply l3_|refine l4_ ?_ GE359.out)|exact HB.out))));have n2_:=m_ (blk_below (g:=gb359) (o:=.cells #[.string a0_0,.slice A0_1 l0_1.length c0_1] 24 (0,0)) (by (with_reducible repeat first|apply b1_|apply b2_|apply b3_);exact BK359.out) hb);have n3_:=m_ (l5_ (by repeat (first|(with_reducible first|exact HB.out|apply l1_|apply l2_|apply l3_|refine l4_ ?_ GE359.out)|exact HB.out)) hb);clear HO364;clear BK359;clear HB;have HO364:=n0_;have HO369:=n1_;have BK359:=n2_;have HB:=n3_;clear n0_ n1_ n2_ n3_;(try clear hb);(try clear hb2);(try clear hk);(try clear hi);(try clear ho0))|((with_reducible refine gate_dst (N:=5) rfl ?_);refine box_event ?hg (N:=5) ?hd (cs:=#[.string (⟨#[]⟩ : ByteArray),.slice none 0 0]) (t:=29) ?hr ?_;(case hd=>rfl);(case hg=>rfl);(case hr=>first|(go_simp;done)|(go_simp;rfl));intro gb370 hg w42 hbox hb;have n0_:=m_ (Kd.R_below (by (with_reducible repeat (first|apply Kd.R_alloc|apply Kd.R_drewN|apply Kd.R_drew));exact HO364.out) hb);have n1_:=m_ (Kd.R_below (by (with_reducible repeat (first|apply Kd.R_alloc|apply Kd.R_drewN|apply Kd.R_drew));exact HO369.out) hb);have n2_:=m_ (blk_below (g:=gb359) (o:=.cells #[.string a0_0,.slice A0_1 l0_1.length c0_1] 24 (0,0)) (by (with_reducible repeat first|apply b1_|apply b2_|apply b3_);exact BK359.out) hb);have n3_:=m_ (l5_ (by repeat (first|(with_reducible first|exact HB.out|apply l1_|apply l2_|apply l3_|refine l4_ ?_ GE359.out)|exact HB.out)) hb);have n4_:=m_ (hbox);have n5_:=m_ ((by rw [hg];exact (l6_ (by repeat (first|(with_reducible first|exact HB.out|apply l1_|apply l2_|apply l3_|refine l4_ ?_ GE359.out)|exact HB.out))) : w.heap.size ≤ gb370));have n6_:=n5_;have n7_:=m_ ((by rw [hg];exact Nat.ne_of_lt (blk_lt (g:=gb359) (o:=.cells #[.string a0_0,.slice A0_1 l0_1.length c0_1] 24 (0,0)) (by (with_reducible repeat first|apply b1_|apply b2_|apply b3_);exact BK359.out)) : gb359 ≠ gb370));have n8_:=m_ ((by rw [hg];exact Nat.ne_of_gt (blk_lt (g:=gb359) (o:=.cells #[.string a0_0,.slice A0_1 l0_1.length c0_1] 24 (0,0)) (by (with_reducible repeat first|apply b1_|apply b2_|apply b3_);exact BK359.out)) : gb370 ≠ gb359));clear HO364;clear HO369;clear BK359;clear HB;have HO364:=n0_;have HO369:=n1_;have BK359:=n2_;have HB:=n3_;have BK370:=n4_;have GW370:=n5_;have GE370:=n6_;have NB359_370:=n7_;have NB370_359:=n8_;clear n0_ n1_ n2_ n3_ n4_ n5_ n6_ n7_ n8_;clear hb hbox hg;have hnb43:=NB370_359.out;have hnc43:=NB359_370.out;have hcz44_0 : w42.cell? ⟨gb370,0,none⟩ = some (.string (⟨#[]⟩ : ByteArray)):=(c_ BK370.out 0).trans rfl;have hcz44_1 : w42.cell? ⟨gb370,1,none⟩ = some (.slice none 0 0):=(c_ BK370.out 1).trans rfl;have hfz44_0:=f_ BK370.out 0;have hfz44_1:=f_ BK370.out 1;obtain ⟨Ao45,co45,eo45⟩:=Kd.R_slice HO369.out;subst eo45)|((with_reducible refine gate_callee (f:=16) rfl ?_);refine goesL_ (some 18) rfl rfl Tryd.func16 (by kernel_rfl) rfl #[.agg #[.string t366,.slice Ao45 t367.length co45]] rfl (by (try simp only [List.map_toArray,List.map_cons,List.map_nil]);first|done|rfl|(simp only [List.length_drop,List.length_take];rfl)) ?_;(with_reducible refine (impl_StreamOut.calls k t366 _ _ t367 t371 _ ?side1 ?side2 ?side3 A10.out).mono ?_);(case side1=>refine (Kd.R_reads' (e:=41) (base:=w.heap.size) (ok:=fun k_=>(True ∧ some k_ ≠ (.slice Ao38 t362.length co38 : Value).ownBlock)) (n:=t367.length) (c:=co45) ?_).2.2;exact (by (with_reducible repeat (first|apply Kd.R_alloc|apply Kd.R_drewN|apply Kd.R_drew));exact (Kd.R_mono (Kd.R_far (p:=⟨gb370,1,none⟩) (Kd.R_far (p:=⟨gb370,0,none⟩) (Kd.R_types HO369.out BK370.out (by decide)) (fun _ hk=>hk.2) (.string t366)) (fun _ hk=>hk.2) (.slice Ao45 t367.length co45)) (fun _ h_=>h_.1))));(case side2=>exact (Kd.R_reads' HO369.out).2.1);(case side3=>first|(with_reducible exact HG.out)|exact GV_below HG.out (by repeat (first|(with_reducible first|exact HB.out|apply l1_|apply l2_|apply l3_|refine l4_ ?_ GE359.out|refine l4_ ?_ GE370.out)|exact HB.out)));rintro e w46 ⟨rfl,hb⟩;refine ⟨_,rfl,?_⟩;have n0_:=m_ (Kd.R_below (by (with_reducible repeat (first|apply Kd.R_alloc|apply Kd.R_drewN|apply Kd.R_drew));exact (Kd.R_mono (Kd.R_far (p:=⟨gb370,1,none⟩) (Kd.R_far (p:=⟨gb370,0,none⟩) (Kd.R_types HO364.out BK370.out (by decide)) (fun _ hk=>hk.2) (.string t366)) (fun _ hk=>hk.2) (.slice Ao45 t367.length co45)) (fun _ h_=>h_.1))) hb);have n1_:=m_ (Kd.R_below (by (with_reducible repeat (first|apply Kd.R_alloc|apply Kd.R_drewN|apply Kd.R_drew));exact (Kd.R_mono (Kd.R_far (p:=⟨gb370,1,none⟩) (Kd.R_far (p:=⟨gb370,0,none⟩) (Kd.R_types HO369.out BK370.out (by decide)) (fun _ hk=>hk.2) (.string t366)) (fun _ hk=>hk.2) (.slice Ao45 t367.length co45)) (fun _ h_=>h_.1))) hb);have n2_:=m_ (blk_below (g:=gb359) (o:=.cells #[.string a0_0,.slice A0_1 l0_1.length c0_1] 24 (0,0)) (by (with_reducible repeat first|apply b1_|apply b2_|apply b3_);refine b4_ ?_ NB359_370.out _;(with_reducible repeat first|apply b1_|apply b2_|apply b3_);refine b4_ ?_ NB359_370.out _;(with_reducible repeat first|apply b1_|apply b2_|apply b3_);exact BK359.out) hb);have n3_:=m_ (blk_below (g:=gb370) (o:=.cells #[.string t366,.slice Ao45 t367.length co45] 29 (0,0)) (by (with_reducible repeat first|apply b1_|apply b2_|apply b3_);refine blk_put (cs:=#[.string t366,.slice none 0 0]) ?_ 1 _ rfl;(with_reducible repeat first|apply b1_|apply b2_|apply b3_);refine blk_put (cs:=#[.string (⟨#[]⟩ : ByteArray),.slice none 0 0]) ?_ 0 _ rfl;(with_reducible repeat first|apply b1_|apply b2_|apply b3_);exact BK370.out) hb);have n4_:=m_ (l5_ (by repeat (first|(with_reducible first|exact HB.out|apply l1_|apply l2_|apply l3_|refine l4_ ?_ GE359.out|refine l4_ ?_ GE370.out)|exact HB.out)) hb);clear HO364;clear HO369;clear BK359;clear BK370;clear HB;have HO364:=n0_;have HO369:=n1_;have BK359:=n2_;have BK370:=n3_;have HB:=n4_;clear n0_ n1_ n2_ n3_ n4_;(try clear hb);(try clear hb2);(try clear hk);(try clear hi)))
    have n0_:=m_ (Kd.R_drew HO364.out)
    have n1_:=m_ (Kd.R_drew HO369.out)
    have n2_:=m_ (b2_ BK359.out)
    have n3_:=m_ (b2_ BK370.out)
    have n4_:=m_ (l3_ HB.out)
    clear HO364
    clear HO369
    clear BK359
    clear BK370
    clear HB
    have HO364:=n0_
    have HO369:=n1_
    have BK359:=n2_
    have BK370:=n3_
    have HB:=n4_
    clear n0_ n1_ n2_ n3_ n4_
    refine start_ (n:=5) (S:=fun w'=>w'.cell? ⟨gb370,0,none⟩ = some (.string t366) ∧ w'.cell? ⟨gb370,1,none⟩ = some (.slice Ao45 t367.length co45) ∧ w'.cell? ⟨gb359,0,none⟩ = some (.string a0_0) ∧ w'.cell? ⟨gb359,1,none⟩ = some (.slice A0_1 l0_1.length c0_1)) (ds:=[]) #[false,false,false,false,false] (by kernel_rfl) rfl rfl ⟨(c_ BK370.out 0).trans rfl,(c_ BK370.out 1).trans rfl,(c_ BK359.out 0).trans rfl,(c_ BK359.out 1).trans rfl⟩ (fun hHeld=>?_)
    generalize w46.drew = w47 at HO364 HO369 BK359 BK370 HB hHeld ⊢
    refine take_ (i:=0) (N:=some 22) (v:=?_) (a':=?_) #[true,false,false,false,false] rfl rfl (by kernel_rfl) (fun _ _ _ h=>h) (Or.inl ⟨by rfl,?_⟩) hHeld ?_ ?_
    rotate_left
    ·rintro w' ⟨s0,s1,s2,s3⟩
     go_simp
     with_reducible rfl
    rotate_left
    ·simp only [Act.put,s1_,s2_,s3_,i64_w,i32_w]
     rfl
    refine take_ (i:=1) (N:=some 23) (v:=?_) (a':=?_) #[true,true,false,false,false] rfl rfl (by kernel_rfl) (fun _ _ _ h=>h) (Or.inl ⟨by rfl,?_⟩) hHeld ?_ ?_
    rotate_left
    ·rintro w' ⟨s0,s1,s2,s3⟩
     go_simp
     with_reducible rfl
    rotate_left
    ·simp only [Act.put,s1_,s2_,s3_,i64_w,i32_w]
     rfl
    refine one_ (i:=2) (N:=some 24) #[true,true,true,false,false] rfl rfl (by kernel_rfl) (by decide) (fun K hK=>?_)
    refine goes_ Tryd.func10 (by kernel_rfl) rfl #[.agg #[.string a0_0,.slice A0_1 l0_1.length c0_1]] (by rfl) rfl rfl (by (try simp only [List.map_toArray,List.map_cons,List.map_nil]);first|done|rfl|(simp only [List.length_drop,List.length_take];rfl)) ?_
    with_reducible refine (laws_toStream.calls k a0_0 _ _ l0_1 t372 t373 _ ?side1 ?side2 A12.out).mono ?_
    (case side1=>repeat (first|exact (Kd.C_below HR0_1.out HB.out)|(with_reducible refine Kd.C_alloc ?_ _)|(with_reducible refine Kd.C_drewN ?_ _)|(with_reducible refine Kd.C_drew ?_)))
    (case side2=>exact HC0_1.out)
    rintro e w48 ⟨v374,rfl,ho0,hb⟩
    refine ⟨_,rfl,?_⟩
    have n0_:=m_ (Kd.R_elder' (by (with_reducible repeat (first|apply Kd.R_alloc|apply Kd.R_drewN|apply Kd.R_drew));exact HO364.out) (Kd.R_base ho0) hb)
    have n1_:=m_ (Kd.R_elder' (by (with_reducible repeat (first|apply Kd.R_alloc|apply Kd.R_drewN|apply Kd.R_drew));exact HO369.out) (Kd.R_base ho0) hb)
    have n2_:=m_ (Kd.R_lower (Kd.R_new' (Kd.R_new' ho0 (Kd.R_lt (by (with_reducible repeat (first|apply Kd.R_alloc|apply Kd.R_drewN|apply Kd.R_drew));exact HO364.out))) (Kd.R_lt (by (with_reducible repeat (first|apply Kd.R_alloc|apply Kd.R_drewN|apply Kd.R_drew));exact HO369.out))) (l6_ (by repeat (first|(with_reducible first|exact HB.out|apply l1_|apply l2_|apply l3_|refine l4_ ?_ GE359.out|refine l4_ ?_ GE370.out)|exact HB.out))))
    have n3_:=m_ (blk_below (g:=gb359) (o:=.cells #[.string a0_0,.slice A0_1 l0_1.length c0_1] 24 (0,0)) (by (with_reducible repeat first|apply b1_|apply b2_|apply b3_);exact BK359.out) hb)
    have n4_:=m_ (blk_below (g:=gb370) (o:=.cells #[.string t366,.slice Ao45 t367.length co45] 29 (0,0)) (by (with_reducible repeat first|apply b1_|apply b2_|apply b3_);exact BK370.out) hb)
    have n5_:=m_ (l5_ (by repeat (first|(with_reducible first|exact HB.out|apply l1_|apply l2_|apply l3_|refine l4_ ?_ GE359.out|refine l4_ ?_ GE370.out)|exact HB.out)) hb)
    clear HO364
    clear HO369
    clear BK359
    clear BK370
    clear HB
    have HO364:=n0_
    have HO369:=n1_
    have HO375:=n2_
    have BK359:=n3_
    have BK370:=n4_
    have HB:=n5_
    clear n0_ n1_ n2_ n3_ n4_ n5_
    (try clear hb)
    (try clear hb2)
    (try clear hk)
    (try clear hi)
    (try clear ho0)
    obtain ⟨Ao49,co49,eo49⟩:=Kd.R_slice HO375.out
    (first|subst eo49|(injection eo49 with f1_ f2_ f3_;have f4_:=f1_.symm;have f5_:=f3_.symm;clear f1_ f2_ f3_;subst f4_;subst f5_))
    refine hK.out _ _ ⟨(c_ BK370.out 0).trans rfl,(c_ BK370.out 1).trans rfl,(c_ BK359.out 0).trans rfl,(c_ BK359.out 1).trans rfl⟩ (fun hHeld=>?_)
    clear hK K
    refine norm_ (a':=?_) ?_ ?_
    rotate_left
    ·show Act.put _ (some 24) _ = _
     simp only [Act.put,s1_,s2_,s3_,i64_w,i32_w]
     rfl
    refine one_ (i:=3) (N:=some 25) #[true,true,true,true,false] rfl rfl (by kernel_rfl) (by decide) (fun K hK=>?_)
    refine goes_ Tryd.func12 (by kernel_rfl) rfl #[.agg #[.string t366,.slice Ao45 t367.length co45],.agg #[.string t372,.slice Ao49 t373.length co49]] (by rfl) rfl rfl (by (try simp only [List.map_toArray,List.map_cons,List.map_nil]);first|done|rfl|(simp only [List.length_drop,List.length_take];rfl)) ?_
    with_reducible refine (laws_eqStream.calls k t366 _ _ t367 t372 _ _ t373 false _ ?side1 ?side2 ?side3 ?side4 A13.out).mono ?_
    (case side1=>repeat (first|exact (Kd.R_reads' HO369.out).2.2|(with_reducible refine Kd.C_alloc ?_ _)|(with_reducible refine Kd.C_drewN ?_ _)|(with_reducible refine Kd.C_drew ?_)))
    (case side2=>exact (Kd.R_reads' HO369.out).2.1)
    (case side3=>repeat (first|exact (Kd.R_reads' HO375.out).2.2|(with_reducible refine Kd.C_alloc ?_ _)|(with_reducible refine Kd.C_drewN ?_ _)|(with_reducible refine Kd.C_drew ?_)))
    (case side4=>exact (Kd.R_reads' HO375.out).2.1)
    rintro e w50 ⟨rfl,hb⟩
    refine ⟨_,rfl,?_⟩
    have n0_:=m_ (Kd.R_below (by (with_reducible repeat (first|apply Kd.R_alloc|apply Kd.R_drewN|apply Kd.R_drew));exact HO364.out) hb)
    have n1_:=m_ (Kd.R_below (by (with_reducible repeat (first|apply Kd.R_alloc|apply Kd.R_drewN|apply Kd.R_drew));exact HO369.out) hb)
    have n2_:=m_ (Kd.R_below (by (with_reducible repeat (first|apply Kd.R_alloc|apply Kd.R_drewN|apply Kd.R_drew));exact HO375.out) hb)
    have n3_:=m_ (blk_below (g:=gb359) (o:=.cells #[.string a0_0,.slice A0_1 l0_1.length c0_1] 24 (0,0)) (by (with_reducible repeat first|apply b1_|apply b2_|apply b3_);exact BK359.out) hb)
    have n4_:=m_ (blk_below (g:=gb370) (o:=.cells #[.string t366,.slice Ao45 t367.length co45] 29 (0,0)) (by (with_reducible repeat first|apply b1_|apply b2_|apply b3_);exact BK370.out) hb)
    have n5_:=m_ (l5_ (by repeat (first|(with_reducible first|exact HB.out|apply l1_|apply l2_|apply l3_|refine l4_ ?_ GE359.out|refine l4_ ?_ GE370.out)|exact HB.out)) hb)
    clear HO364
    clear HO369
    clear HO375
    clear BK359
    clear BK370
    clear HB
    have HO364:=n0_
    have HO369:=n1_
    have HO375:=n2_
    have BK359:=n3_
    have BK370:=n4_
    have HB:=n5_
    clear n0_ n1_ n2_ n3_ n4_ n5_
    (try clear hb)
    (try clear hb2)
    (try clear hk)
    (try clear hi)
    refine hK.out _ _ ⟨(c_ BK370.out 0).trans rfl,(c_ BK370.out 1).trans rfl,(c_ BK359.out 0).trans rfl,(c_ BK359.out 1).trans rfl⟩ (fun hHeld=>?_)
    clear hK K
    refine norm_ (a':=?_) ?_ ?_
    rotate_left
    ·show Act.put _ (some 25) _ = _
     simp only [Act.put,s1_,s2_,s3_,i64_w,i32_w]
     rfl
    refine pure_ (i:=4) (N:=some 26) (v:=?_) (a':=?_) #[true,true,true,true,true] rfl rfl (by kernel_rfl) (fun _ _ _ h=>h) (Or.inl ⟨by rfl,?_⟩) ?_ ?_
    rotate_left
    ·intro w'
     go_simp
     with_reducible rfl
    rotate_left
    ·simp only [Act.put,s1_,s2_,s3_,i64_w,i32_w]
     rfl
    refine done_ (by kernel_rfl) ?_
    try go_wp2
    go_ret
    exact ⟨by first|rfl|(simp [e1_,e2_] <;> rfl)|(simp [*,e1_,e2_] <;> rfl)|(simp [e1_,e2_,pk_empty1,pk_empty2];done)|(simp [*,e1_,e2_,pk_empty1,pk_empty2];done),by repeat (first|(with_reducible first|exact HB.out|apply l1_|apply l2_|apply l3_|refine l4_ ?_ GE359.out|refine l4_ ?_ GE370.out)|exact HB.out)⟩
  ·rw [if_neg c11] at H
   have c11b0 : (t371.toList == t365.toList) = false:=beq_eq_false_iff_ne.mpr c11
   have c11b1 : (t371.toList != t365.toList) = true:=bne_iff_ne.mpr c11
   obtain rfl:=Option.some.inj H
   go_enter Tryd.func5,Tryd.ntmps5
   go_wp2_with (first|((with_reducible refine gate_dst (N:=1) rfl ?_);refine box_event ?hg (N:=1) ?hd (cs:=#[.string a0_0,.slice A0_1 l0_1.length c0_1]) (t:=24) ?hr ?_;(case hd=>rfl);(case hg=>rfl);(case hr=>first|(go_simp;done)|(go_simp;rfl));intro gb359 hg w51 hbox hb;have n0_:=m_ (l5_ (by repeat (first|(with_reducible first|exact HB.out|apply l1_|apply l2_|apply l3_)|exact HB.out)) hb);have n1_:=m_ (hbox);have n2_:=m_ ((by rw [hg];exact (l6_ (by repeat (first|(with_reducible first|exact HB.out|apply l1_|apply l2_|apply l3_)|exact HB.out))) : w.heap.size ≤ gb359));have n3_:=m_ ((by rw [hg];exact (l6_ (by repeat (first|(with_reducible first|exact HB.out|apply l1_|apply l2_|apply l3_)|exact HB.out))) : w.heap.size ≤ gb359));clear HB;have HB:=n0_;have BK359:=n1_;have GW359:=n2_;have GE359:=n3_;clear n0_ n1_ n2_ n3_;clear hb hbox hg;have hcz52_0 : w51.cell? ⟨gb359,0,none⟩ = some (.string a0_0):=(c_ BK359.out 0).trans rfl;have hcz52_1 : w51.cell? ⟨gb359,1,none⟩ = some (.slice A0_1 l0_1.length c0_1):=(c_ BK359.out 1).trans rfl;have hfz52_0:=f_ BK359.out 0;have hfz52_1:=f_ BK359.out 1)|((with_reducible refine gate_callee (f:=8) rfl ?_);refine goesL_ (some 9) rfl rfl Tryd.func8 (by kernel_rfl) rfl #[.agg #[.string a0_0,.slice A0_1 l0_1.length c0_1],.int .i64 1048576] rfl (by (try simp only [List.map_toArray,List.map_cons,List.map_nil]);first|done|rfl|(simp only [List.length_drop,List.length_take];rfl)) ?_;(with_reducible refine (laws_szStream.calls k a0_0 _ _ l0_1 1048576 t360 _ ?side1 ?side2 A2.out).mono ?_);(case side1=>repeat (first|exact (Kd.C_below HR0_1.out HB.out)|(with_reducible refine Kd.C_alloc ?_ _)|(with_reducible refine Kd.C_drewN ?_ _)|(with_reducible refine Kd.C_drew ?_)));(case side2=>exact HC0_1.out);rintro e w53 ⟨rfl,hb⟩;refine ⟨_,rfl,?_⟩;have n0_:=m_ (blk_below (g:=gb359) (o:=.cells #[.string a0_0,.slice A0_1 l0_1.length c0_1] 24 (0,0)) (by (with_reducible repeat first|apply b1_|apply b2_|apply b3_);exact BK359.out) hb);have n1_:=m_ (l5_ (by repeat (first|(with_reducible first|exact HB.out|apply l1_|apply l2_|apply l3_|refine l4_ ?_ GE359.out)|exact HB.out)) hb);clear BK359;clear HB;have BK359:=n0_;have HB:=n1_;clear n0_ n1_;(try clear hb);(try clear hb2);(try clear hk);(try clear hi);have hcz54_0 : w53.cell? ⟨gb359,0,none⟩ = some (.string a0_0):=(c_ BK359.out 0).trans rfl;have hcz54_1 : w53.cell? ⟨gb359,1,none⟩ = some (.slice A0_1 l0_1.length c0_1):=(c_ BK359.out 1).trans rfl;have hfz54_0:=f_ BK359.out 0;have hfz54_1:=f_ BK359.out 1)|((with_reducible refine gate_callee (f:=10) rfl ?_);refine goesL_ (some 13) rfl rfl Tryd.func10 (by kernel_rfl) rfl #[.agg #[.string a0_0,.slice A0_1 l0_1.length c0_1]] rfl (by (try simp only [List.map_toArray,List.map_cons,List.map_nil]);first|done|rfl|(simp only [List.length_drop,List.length_take];rfl)) ?_;(with_reducible refine (laws_toStream.calls k a0_0 _ _ l0_1 t361 t362 _ ?side1 ?side2 A7.out).mono ?_);(case side1=>repeat (first|exact (Kd.C_below HR0_1.out HB.out)|(with_reducible refine Kd.C_alloc ?_ _)|(with_reducible refine Kd.C_drewN ?_ _)|(with_reducible refine Kd.C_drew ?_)));(case side2=>exact HC0_1.out);rintro e w55 ⟨v363,rfl,ho0,hb⟩;refine ⟨_,rfl,?_⟩;have n0_:=m_ (Kd.R_lower ho0 (l6_ (by repeat (first|(with_reducible first|exact HB.out|apply l1_|apply l2_|apply l3_|refine l4_ ?_ GE359.out)|exact HB.out))));have n1_:=m_ (blk_below (g:=gb359) (o:=.cells #[.string a0_0,.slice A0_1 l0_1.length c0_1] 24 (0,0)) (by (with_reducible repeat first|apply b1_|apply b2_|apply b3_);exact BK359.out) hb);have n2_:=m_ (l5_ (by repeat (first|(with_reducible first|exact HB.out|apply l1_|apply l2_|apply l3_|refine l4_ ?_ GE359.out)|exact HB.out)) hb);clear BK359;clear HB;have HO364:=n0_;have BK359:=n1_;have HB:=n2_;clear n0_ n1_ n2_;(try clear hb);(try clear hb2);(try clear hk);(try clear hi);(try clear ho0);obtain ⟨Ao56,co56,eo56⟩:=Kd.R_slice HO364.out;subst eo56)|((with_reducible refine gate_callee (f:=15) rfl ?_);refine goesL_ (some 14) rfl rfl Tryd.func15 (by kernel_rfl) rfl #[.agg #[.string t361,.slice Ao56 t362.length co56]] rfl (by (try simp only [List.map_toArray,List.map_cons,List.map_nil]);first|done|rfl|(simp only [List.length_drop,List.length_take];rfl)) ?_;(with_reducible refine (spec_StreamOut.calls k t361 _ _ t362 t365 _ ?side1 ?side2 A8.out).mono ?_);(case side1=>repeat (first|exact (Kd.R_reads' HO364.out).2.2|(with_reducible refine Kd.C_alloc ?_ _)|(with_reducible refine Kd.C_drewN ?_ _)|(with_reducible refine Kd.C_drew ?_)));(case side2=>exact (Kd.R_reads' HO364.out).2.1);rintro e w57 ⟨rfl,hb⟩;refine ⟨_,rfl,?_⟩;have n0_:=m_ (Kd.R_below (by (with_reducible repeat (first|apply Kd.R_alloc|apply Kd.R_drewN|apply Kd.R_drew));exact HO364.out) hb);have n1_:=m_ (blk_below (g:=gb359) (o:=.cells #[.string a0_0,.slice A0_1 l0_1.length c0_1] 24 (0,0)) (by (with_reducible repeat first|apply b1_|apply b2_|apply b3_);exact BK359.out) hb);have n2_:=m_ (l5_ (by repeat (first|(with_reducible first|exact HB.out|apply l1_|apply l2_|apply l3_|refine l4_ ?_ GE359.out)|exact HB.out)) hb);clear HO364;clear BK359;clear HB;have HO364:=n0_;have BK359:=n1_;have HB:=n2_;clear n0_ n1_ n2_;(try clear hb);(try clear hb2);(try clear hk);(try clear hi);have hcz58_0 : w57.cell? ⟨gb359,0,none⟩ = some (.string a0_0):=(c_ BK359.out 0).trans rfl;have hcz58_1 : w57.cell? ⟨gb359,1,none⟩ = some (.slice A0_1 l0_1.length c0_1):=(c_ BK359.out 1).trans rfl;have hfz58_0:=f_ BK359.out 0;have hfz58_1:=f_ BK359.out 1)|((with_reducible refine gate_callee (f:=10) rfl ?_);refine goesL_ (some 16) rfl rfl Tryd.func10 (by kernel_rfl) rfl #[.agg #[.string a0_0,.slice A0_1 l0_1.length c0_1]] rfl (by (try simp only [List.map_toArray,List.map_cons,List.map_nil]);first|done|rfl|(simp only [List.length_drop,List.length_take];rfl)) ?_;(with_reducible refine (laws_toStream.calls k a0_0 _ _ l0_1 t366 t367 _ ?side1 ?side2 A9.out).mono ?_);(case side1=>repeat (first|exact (Kd.C_below HR0_1.out HB.out)|(with_reducible refine Kd.C_alloc ?_ _)|(with_reducible refine Kd.C_drewN ?_ _)|(with_reducible refine Kd.C_drew ?_)));(case side2=>exact HC0_1.out);rintro e w59 ⟨v368,rfl,ho0,hb⟩;refine ⟨_,rfl,?_⟩;have n0_:=m_ (Kd.R_elder' (by (with_reducible repeat (first|apply Kd.R_alloc|apply Kd.R_drewN|apply Kd.R_drew));exact HO364.out) (Kd.R_base ho0) hb);have n1_:=m_ (Kd.R_lower (Kd.R_new' ho0 (Kd.R_lt (by (with_reducible repeat (first|apply Kd.R_alloc|apply Kd.R_drewN|apply Kd.R_drew));exact HO364.out))) (l6_ (by repeat (first|(with_reducible first|exact HB.out|apply l1_|apply l2_|apply l3_|refine l4_ ?_ GE359.out)|exact HB.out))));have n2_:=m_ (blk_below (g:=gb359) (o:=.cells #[.string a0_0,.slice A0_1 l0_1.length c0_1] 24 (0,0)) (by (with_reducible repeat first|apply b1_|apply b2_|apply b3_);exact BK359.out) hb);have n3_:=m_ (l5_ (by repeat (first|(with_reducible first|exact HB.out|apply l1_|apply l2_|apply l3_|refine l4_ ?_ GE359.out)|exact HB.out)) hb);clear HO364;clear BK359;clear HB;have HO364:=n0_;have HO369:=n1_;have BK359:=n2_;have HB:=n3_;clear n0_ n1_ n2_ n3_;(try clear hb);(try clear hb2);(try clear hk);(try clear hi);(try clear ho0))|((with_reducible refine gate_dst (N:=5) rfl ?_);refine box_event ?hg (N:=5) ?hd (cs:=#[.string (⟨#[]⟩ : ByteArray),.slice none 0 0]) (t:=29) ?hr ?_;(case hd=>rfl);(case hg=>rfl);(case hr=>first|(go_simp;done)|(go_simp;rfl));intro gb370 hg w60 hbox hb;have n0_:=m_ (Kd.R_below (by (with_reducible repeat (first|apply Kd.R_alloc|apply Kd.R_drewN|apply Kd.R_drew));exact HO364.out) hb);have n1_:=m_ (Kd.R_below (by (with_reducible repeat (first|apply Kd.R_alloc|apply Kd.R_drewN|apply Kd.R_drew));exact HO369.out) hb);have n2_:=m_ (blk_below (g:=gb359) (o:=.cells #[.string a0_0,.slice A0_1 l0_1.length c0_1] 24 (0,0)) (by (with_reducible repeat first|apply b1_|apply b2_|apply b3_);exact BK359.out) hb);have n3_:=m_ (l5_ (by repeat (first|(with_reducible first|exact HB.out|apply l1_|apply l2_|apply l3_|refine l4_ ?_ GE359.out)|exact HB.out)) hb);have n4_:=m_ (hbox);have n5_:=m_ ((by rw [hg];exact (l6_ (by repeat (first|(with_reducible first|exact HB.out|apply l1_|apply l2_|apply l3_|refine l4_ ?_ GE359.out)|exact HB.out))) : w.heap.size ≤ gb370));have n6_:=n5_;have n7_:=m_ ((by rw [hg];exact Nat.ne_of_lt (blk_lt (g:=gb359) (o:=.cells #[.string a0_0,.slice A0_1 l0_1.length c0_1] 24 (0,0)) (by (with_reducible repeat first|apply b1_|apply b2_|apply b3_);exact BK359.out)) : gb359 ≠ gb370));have n8_:=m_ ((by rw [hg];exact Nat.ne_of_gt (blk_lt (g:=gb359) (o:=.cells #[.string a0_0,.slice A0_1 l0_1.length c0_1] 24 (0,0)) (by (with_reducible repeat first|apply b1_|apply b2_|apply b3_);exact BK359.out)) : gb370 ≠ gb359));clear HO364;clear HO369;clear BK359;clear HB;have HO364:=n0_;have HO369:=n1_;have BK359:=n2_;have HB:=n3_;have BK370:=n4_;have GW370:=n5_;have GE370:=n6_;have NB359_370:=n7_;have NB370_359:=n8_;clear n0_ n1_ n2_ n3_ n4_ n5_ n6_ n7_ n8_;clear hb hbox hg;have hnb61:=NB370_359.out;have hnc61:=NB359_370.out;have hcz62_0 : w60.cell? ⟨gb370,0,none⟩ = some (.string (⟨#[]⟩ : ByteArray)):=(c_ BK370.out 0).trans rfl;have hcz62_1 : w60.cell? ⟨gb370,1,none⟩ = some (.slice none 0 0):=(c_ BK370.out 1).trans rfl;have hfz62_0:=f_ BK370.out 0;have hfz62_1:=f_ BK370.out 1;obtain ⟨Ao63,co63,eo63⟩:=Kd.R_slice HO369.out;subst eo63)|((with_reducible refine gate_callee (f:=16) rfl ?_);refine goesL_ (some 18) rfl rfl Tryd.func16 (by kernel_rfl) rfl #[.agg #[.string t366,.slice Ao63 t367.length co63]] rfl (by (try simp only [List.map_toArray,List.map_cons,List.map_nil]);first|done|rfl|(simp only [List.length_drop,List.length_take];rfl)) ?_;(with_reducible refine (impl_StreamOut.calls k t366 _ _ t367 t371 _ ?side1 ?side2 ?side3 A10.out).mono ?_);(case side1=>refine (Kd.R_reads' (e:=41) (base:=w.heap.size) (ok:=fun k_=>(True ∧ some k_ ≠ (.slice Ao56 t362.length co56 : Value).ownBlock)) (n:=t367.length) (c:=co63) ?_).2.2;exact (by (with_reducible repeat (first|apply Kd.R_alloc|apply Kd.R_drewN|apply Kd.R_drew));exact (Kd.R_mono (Kd.R_far (p:=⟨gb370,1,none⟩) (Kd.R_far (p:=⟨gb370,0,none⟩) (Kd.R_types HO369.out BK370.out (by decide)) (fun _ hk=>hk.2) (.string t366)) (fun _ hk=>hk.2) (.slice Ao63 t367.length co63)) (fun _ h_=>h_.1))));(case side2=>exact (Kd.R_reads' HO369.out).2.1);(case side3=>first|(with_reducible exact HG.out)|exact GV_below HG.out (by repeat (first|(with_reducible first|exact HB.out|apply l1_|apply l2_|apply l3_|refine l4_ ?_ GE359.out|refine l4_ ?_ GE370.out)|exact HB.out)));rintro e w64 ⟨rfl,hb⟩;refine ⟨_,rfl,?_⟩;have n0_:=m_ (Kd.R_below (by (with_reducible repeat (first|apply Kd.R_alloc|apply Kd.R_drewN|apply Kd.R_drew));exact (Kd.R_mono (Kd.R_far (p:=⟨gb370,1,none⟩) (Kd.R_far (p:=⟨gb370,0,none⟩) (Kd.R_types HO364.out BK370.out (by decide)) (fun _ hk=>hk.2) (.string t366)) (fun _ hk=>hk.2) (.slice Ao63 t367.length co63)) (fun _ h_=>h_.1))) hb);have n1_:=m_ (Kd.R_below (by (with_reducible repeat (first|apply Kd.R_alloc|apply Kd.R_drewN|apply Kd.R_drew));exact (Kd.R_mono (Kd.R_far (p:=⟨gb370,1,none⟩) (Kd.R_far (p:=⟨gb370,0,none⟩) (Kd.R_types HO369.out BK370.out (by decide)) (fun _ hk=>hk.2) (.string t366)) (fun _ hk=>hk.2) (.slice Ao63 t367.length co63)) (fun _ h_=>h_.1))) hb);have n2_:=m_ (blk_below (g:=gb359) (o:=.cells #[.string a0_0,.slice A0_1 l0_1.length c0_1] 24 (0,0)) (by (with_reducible repeat first|apply b1_|apply b2_|apply b3_);refine b4_ ?_ NB359_370.out _;(with_reducible repeat first|apply b1_|apply b2_|apply b3_);refine b4_ ?_ NB359_370.out _;(with_reducible repeat first|apply b1_|apply b2_|apply b3_);exact BK359.out) hb);have n3_:=m_ (blk_below (g:=gb370) (o:=.cells #[.string t366,.slice Ao63 t367.length co63] 29 (0,0)) (by (with_reducible repeat first|apply b1_|apply b2_|apply b3_);refine blk_put (cs:=#[.string t366,.slice none 0 0]) ?_ 1 _ rfl;(with_reducible repeat first|apply b1_|apply b2_|apply b3_);refine blk_put (cs:=#[.string (⟨#[]⟩ : ByteArray),.slice none 0 0]) ?_ 0 _ rfl;(with_reducible repeat first|apply b1_|apply b2_|apply b3_);exact BK370.out) hb);have n4_:=m_ (l5_ (by repeat (first|(with_reducible first|exact HB.out|apply l1_|apply l2_|apply l3_|refine l4_ ?_ GE359.out|refine l4_ ?_ GE370.out)|exact HB.out)) hb);clear HO364;clear HO369;clear BK359;clear BK370;clear HB;have HO364:=n0_;have HO369:=n1_;have BK359:=n2_;have BK370:=n3_;have HB:=n4_;clear n0_ n1_ n2_ n3_ n4_;(try clear hb);(try clear hb2);(try clear hk);(try clear hi)))
   go_ret
   exact ⟨by first|rfl|(simp [e1_,e2_] <;> rfl)|(simp [*,e1_,e2_] <;> rfl)|(simp [e1_,e2_,pk_empty1,pk_empty2];done)|(simp [*,e1_,e2_,pk_empty1,pk_empty2];done),by repeat (first|(with_reducible first|exact HB.out|apply l1_|apply l2_|apply l3_|refine l4_ ?_ GE359.out|refine l4_ ?_ GE370.out)|exact HB.out)⟩

end Go.Proofs.YtkcjmmhleepjeaaDoor.A
