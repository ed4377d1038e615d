-- Printed by myprint.py (wip/tools) out of the translation. Not trusted: Lean checks it.
import Derived.Test.YtkcjmmhleepjeaaDoorAx0
import Derived.Test.YtkcjmmhleepjeaaDoorAx6
namespace Go.Proofs.YtkcjmmhleepjeaaDoor.A
open Go.RowKit Go.Proofs.YtkcjmmhleepjeaaDoorW.PrintWords Go.Proofs.YtkcjmmhleepjeaaDoorW.PrintLast Go.Proofs.YtkcjmmhleepjeaaDoorW.PrintMore
attribute [local go_sem] max2_int min2_int max_two min_two max_three min_three max_four min_four
set_option linter.unusedVariables false
set_option maxHeartbeats 8000000
set_option maxRecDepth 100000
set_option linter.unusedSimpArgs false

/-! ### impl_EndOutside: function 94 -/
def impl_EndOutside.f (a0_0 : Int) (a0_1 : Int) : Option (Bool) := (impl_within.f a0_0 4 6).bind fun t207 => (if t207 = true then ((impl_within.f a0_1 1 9).bind fun t208 => (some t208)) else (some false))
theorem impl_EndOutside.calls (a0_0 : Int) (a0_1 : Int) (r : Bool) (w : World) (h : impl_EndOutside.f a0_0 a0_1 = some r) :
  Calls Tryd.prog 94 #[.agg #[.int .i64 a0_0,.int .i64 a0_1]] w fun e w'=>e = .returned (.bool r) ∧ Below w.heap.size w w':=by
 have hu43:=Tryd.underlying43
 have HB:=m_ (Below.refl w.heap.size w)
 have H : ((impl_within.f a0_0 4 6).bind fun t207=>(if t207 = true then ((impl_within.f a0_1 1 9).bind fun t208=>(some t208)) else (some false))) = some r:=h
 clear h
 replace H:=Option.bind_eq_some_iff.mp H
 obtain ⟨t207,A20,H⟩:=H
 replace H : (if t207 = true then ((impl_within.f a0_1 1 9).bind fun t208=>(some t208)) else (some false)) = some r:=H
 have A2:=m_ A20
 clear A20
 by_cases c3 : t207 = true
 ·subst c3
  have H1 : ((impl_within.f a0_1 1 9).bind fun t208=>(some t208)) = some r:=by rw [if_pos rfl] at H;exact H
  clear H
  have H:=H1
  clear H1
  replace H:=Option.bind_eq_some_iff.mp H
  obtain ⟨t208,A40,H⟩:=H
  replace H : (some t208) = some r:=H
  have A4:=m_ A40
  clear A40
  obtain rfl:=Option.some.inj H
  go_enter Tryd.func94,Tryd.ntmps94
  go_wp2_with (first|((with_reducible refine gate_dst (N:=1) rfl ?_);refine box_event ?hg (N:=1) ?hd (cs:=#[.int .i64 a0_0,.int .i64 a0_1]) (t:=43) ?hr ?_;(case hd=>rfl);(case hg=>rfl);(case hr=>first|(go_simp;done)|(go_simp;rfl));intro gb206 hg w5 hbox hb;have n0_:=m_ (l5_ (puL HB.out) hb);have n1_:=m_ (hbox);have n2_:=m_ ((by rw [hg];exact (l6_ (puL HB.out)) : w.heap.size ≤ gb206));have n3_:=m_ ((by rw [hg];exact (l6_ (puL HB.out)) : w.heap.size ≤ gb206));revert n0_ n1_ n2_ n3_;clear HB;intro HB BK206 GW206 GE206;clear hb hbox hg;have hcz6_0 : w5.cell? ⟨gb206,0,none⟩ = some (.int .i64 a0_0):=(c_ BK206.out 0).trans rfl;have hcz6_1 : w5.cell? ⟨gb206,1,none⟩ = some (.int .i64 a0_1):=(c_ BK206.out 1).trans rfl)|((with_reducible refine gate_callee (f:=29) rfl ?_);refine goesL_ (some 5) rfl rfl Tryd.func29 (by kernel_rfl) rfl #[.int .i64 a0_0,.int .i64 4,.int .i64 6] rfl lens ?_;(with_reducible refine (impl_within.calls a0_0 4 6 true _ A2.out).mono ?_);rintro e w' ⟨rfl,⟨nd,rfl⟩⟩;refine ⟨_,rfl,?_⟩)|(go_at_call 29;(with_reducible refine (impl_within.calls a0_1 1 9 t208 _ A4.out).mono ?_);rintro e w' ⟨rfl,⟨nd,rfl⟩⟩))
  go_ret
  exact ⟨eqs,puM HB.out GE206.out⟩
 ·replace c3:=Bool.eq_false_iff.mpr c3
  subst c3
  have H1 : (some false) = some r:=by rw [if_neg (show ¬ (false = true) by decide)] at H;exact H
  clear H
  have H:=H1
  clear H1
  obtain rfl:=Option.some.inj H
  go_enter Tryd.func94,Tryd.ntmps94
  go_wp2_with (first|((with_reducible refine gate_dst (N:=1) rfl ?_);refine box_event ?hg (N:=1) ?hd (cs:=#[.int .i64 a0_0,.int .i64 a0_1]) (t:=43) ?hr ?_;(case hd=>rfl);(case hg=>rfl);(case hr=>first|(go_simp;done)|(go_simp;rfl));intro gb206 hg w7 hbox hb;have n0_:=m_ (l5_ (puL HB.out) hb);have n1_:=m_ (hbox);have n2_:=m_ ((by rw [hg];exact (l6_ (puL HB.out)) : w.heap.size ≤ gb206));have n3_:=m_ ((by rw [hg];exact (l6_ (puL HB.out)) : w.heap.size ≤ gb206));revert n0_ n1_ n2_ n3_;clear HB;intro HB BK206 GW206 GE206;clear hb hbox hg;have hcz8_0 : w7.cell? ⟨gb206,0,none⟩ = some (.int .i64 a0_0):=(c_ BK206.out 0).trans rfl;have hcz8_1 : w7.cell? ⟨gb206,1,none⟩ = some (.int .i64 a0_1):=(c_ BK206.out 1).trans rfl)|((with_reducible refine gate_callee (f:=29) rfl ?_);refine goesL_ (some 5) rfl rfl Tryd.func29 (by kernel_rfl) rfl #[.int .i64 a0_0,.int .i64 4,.int .i64 6] rfl lens ?_;(with_reducible refine (impl_within.calls a0_0 4 6 false _ A2.out).mono ?_);rintro e w' ⟨rfl,⟨nd,rfl⟩⟩;refine ⟨_,rfl,?_⟩))
  go_ret
  exact ⟨eqs,puM HB.out GE206.out⟩

/-! ### impl_EndDoor: function 95 -/
def impl_EndDoor.f (a0_0 : Int) (a0_1 : Int) : Option (Bool) := if a0_0 = 9 then ((impl_within.f a0_1 10 17).bind fun t210 => (some t210)) else (some false)
theorem impl_EndDoor.calls (a0_0 : Int) (a0_1 : Int) (r : Bool) (w : World) (h : impl_EndDoor.f a0_0 a0_1 = some r) :
  Calls Tryd.prog 95 #[.agg #[.int .i64 a0_0,.int .i64 a0_1]] w fun e w'=>e = .returned (.bool r) ∧ Below w.heap.size w w':=by
 have hu43:=Tryd.underlying43
 have HB:=m_ (Below.refl w.heap.size w)
 have H : (if a0_0 = 9 then ((impl_within.f a0_1 10 17).bind fun t210=>(some t210)) else (some false)) = some r:=h
 clear h
 by_cases c2 : a0_0 = 9
 ·rw [if_pos c2] at H
  have c2b0 : (a0_0 == 9) = true:=beq_iff_eq.mpr c2
  have c2b1 : (a0_0 != 9) = false:=bne_eq_false_iff_eq.mpr c2
  clear c2
  replace H:=Option.bind_eq_some_iff.mp H
  obtain ⟨t210,A30,H⟩:=H
  replace H : (some t210) = some r:=H
  have A3:=m_ A30
  clear A30
  obtain rfl:=Option.some.inj H
  go_enter Tryd.func95,Tryd.ntmps95
  go_wp2_with (first|((with_reducible refine gate_dst (N:=1) rfl ?_);refine box_event ?hg (N:=1) ?hd (cs:=#[.int .i64 a0_0,.int .i64 a0_1]) (t:=43) ?hr ?_;(case hd=>rfl);(case hg=>rfl);(case hr=>first|(go_simp;done)|(go_simp;rfl));intro gb209 hg w4 hbox hb;have n0_:=m_ (l5_ (puL HB.out) hb);have n1_:=m_ (hbox);have n2_:=m_ ((by rw [hg];exact (l6_ (puL HB.out)) : w.heap.size ≤ gb209));have n3_:=m_ ((by rw [hg];exact (l6_ (puL HB.out)) : w.heap.size ≤ gb209));revert n0_ n1_ n2_ n3_;clear HB;intro HB BK209 GW209 GE209;clear hb hbox hg;have hcz5_0 : w4.cell? ⟨gb209,0,none⟩ = some (.int .i64 a0_0):=(c_ BK209.out 0).trans rfl;have hcz5_1 : w4.cell? ⟨gb209,1,none⟩ = some (.int .i64 a0_1):=(c_ BK209.out 1).trans rfl)|(go_at_call 29;(with_reducible refine (impl_within.calls a0_1 10 17 t210 _ A3.out).mono ?_);rintro e w' ⟨rfl,⟨nd,rfl⟩⟩))
  go_ret
  exact ⟨eqs,puM HB.out GE209.out⟩
 ·rw [if_neg c2] at H
  have c2b0 : (a0_0 == 9) = false:=beq_eq_false_iff_ne.mpr c2
  have c2b1 : (a0_0 != 9) = true:=bne_iff_ne.mpr c2
  obtain rfl:=Option.some.inj H
  go_enter Tryd.func95,Tryd.ntmps95
  go_wp2_with (first|((with_reducible refine gate_dst (N:=1) rfl ?_);refine box_event ?hg (N:=1) ?hd (cs:=#[.int .i64 a0_0,.int .i64 a0_1]) (t:=43) ?hr ?_;(case hd=>rfl);(case hg=>rfl);(case hr=>first|(go_simp;done)|(go_simp;rfl));intro gb209 hg w6 hbox hb;have n0_:=m_ (l5_ (puL HB.out) hb);have n1_:=m_ (hbox);have n2_:=m_ ((by rw [hg];exact (l6_ (puL HB.out)) : w.heap.size ≤ gb209));have n3_:=n2_;revert n0_ n1_ n2_ n3_;clear HB;intro HB BK209 GW209 GE209;clear hb hbox hg;have hcz7_0 : w6.cell? ⟨gb209,0,none⟩ = some (.int .i64 a0_0):=(c_ BK209.out 0).trans rfl;have hcz7_1 : w6.cell? ⟨gb209,1,none⟩ = some (.int .i64 a0_1):=(c_ BK209.out 1).trans rfl))
  go_ret
  exact ⟨eqs,puM HB.out GE209.out⟩

/-! ### impl_End_any: function 87 -/
def impl_End_any.f (a0_0 : Int) (a0_1 : Int) : Option (Bool) := (impl_EndInside.f a0_0 a0_1).bind fun t212 => (if t212 = true then (some true) else ((impl_EndOutside.f a0_0 a0_1).bind fun t213 => (if t213 = true then (some true) else ((impl_EndDoor.f a0_0 a0_1).bind fun t214 => (some t214)))))
theorem impl_End_any.calls (a0_0 : Int) (a0_1 : Int) (r : Bool) (w : World) (h : impl_End_any.f a0_0 a0_1 = some r) :
  Calls Tryd.prog 87 #[.agg #[.int .i64 a0_0,.int .i64 a0_1]] w fun e w'=>e = .returned (.bool r) ∧ Below w.heap.size w w':=by
 have hu43:=Tryd.underlying43
 have HB:=m_ (Below.refl w.heap.size w)
 have H : ((impl_EndInside.f a0_0 a0_1).bind fun t212=>(if t212 = true then (some true) else ((impl_EndOutside.f a0_0 a0_1).bind fun t213=>(if t213 = true then (some true) else ((impl_EndDoor.f a0_0 a0_1).bind fun t214=>(some t214)))))) = some r:=h
 clear h
 replace H:=Option.bind_eq_some_iff.mp H
 obtain ⟨t212,A20,H⟩:=H
 replace H : (if t212 = true then (some true) else ((impl_EndOutside.f a0_0 a0_1).bind fun t213=>(if t213 = true then (some true) else ((impl_EndDoor.f a0_0 a0_1).bind fun t214=>(some t214))))) = some r:=H
 have A2:=m_ A20
 clear A20
 by_cases c3 : t212 = true
 ·subst c3
  have H1 : (some true) = some r:=by rw [if_pos rfl] at H;exact H
  clear H
  have H:=H1
  clear H1
  obtain rfl:=Option.some.inj H
  go_enter Tryd.func87,Tryd.ntmps87
  go_wp2_with (first|((with_reducible refine gate_dst (N:=1) rfl ?_);refine box_event ?hg (N:=1) ?hd (cs:=#[.int .i64 a0_0,.int .i64 a0_1]) (t:=43) ?hr ?_;(case hd=>rfl);(case hg=>rfl);(case hr=>first|(go_simp;done)|(go_simp;rfl));intro gb211 hg w4 hbox hb;have n0_:=m_ (l5_ (puL HB.out) hb);have n1_:=m_ (hbox);have n2_:=m_ ((by rw [hg];exact (l6_ (puL HB.out)) : w.heap.size ≤ gb211));have n3_:=m_ ((by rw [hg];exact (l6_ (puL HB.out)) : w.heap.size ≤ gb211));revert n0_ n1_ n2_ n3_;clear HB;intro HB BK211 GW211 GE211;clear hb hbox hg;have hcz5_0 : w4.cell? ⟨gb211,0,none⟩ = some (.int .i64 a0_0):=(c_ BK211.out 0).trans rfl;have hcz5_1 : w4.cell? ⟨gb211,1,none⟩ = some (.int .i64 a0_1):=(c_ BK211.out 1).trans rfl)|((with_reducible refine gate_callee (f:=93) rfl ?_);refine goesL_ (some 4) rfl rfl Tryd.func93 (by kernel_rfl) rfl #[.agg #[.int .i64 a0_0,.int .i64 a0_1]] rfl lens ?_;(with_reducible refine (impl_EndInside.calls a0_0 a0_1 true _ A2.out).mono ?_);rintro e w6 ⟨rfl,hb⟩;refine ⟨_,rfl,?_⟩;have n0_:=m_ (blk_below (g:=gb211) (o:=.cells #[.int .i64 a0_0,.int .i64 a0_1] 43 (0,0)) (puB BK211.out) hb);have n1_:=m_ (l5_ (puM HB.out GE211.out) hb);revert n0_ n1_;clear BK211 HB;intro BK211 HB;(try clear hb);(try clear hb2);(try clear hk);(try clear hi)))
  go_ret
  exact ⟨eqs,puM HB.out GE211.out⟩
 ·replace c3:=Bool.eq_false_iff.mpr c3
  subst c3
  have H1 : ((impl_EndOutside.f a0_0 a0_1).bind fun t213=>(if t213 = true then (some true) else ((impl_EndDoor.f a0_0 a0_1).bind fun t214=>(some t214)))) = some r:=by rw [if_neg (show ¬ (false = true) by decide)] at H;exact H
  clear H
  have H:=H1
  clear H1
  replace H:=Option.bind_eq_some_iff.mp H
  obtain ⟨t213,A70,H⟩:=H
  replace H : (if t213 = true then (some true) else ((impl_EndDoor.f a0_0 a0_1).bind fun t214=>(some t214))) = some r:=H
  have A7:=m_ A70
  clear A70
  by_cases c8 : t213 = true
  ·subst c8
   have H1 : (some true) = some r:=by rw [if_pos rfl] at H;exact H
   clear H
   have H:=H1
   clear H1
   obtain rfl:=Option.some.inj H
   go_enter Tryd.func87,Tryd.ntmps87
   go_wp2_with (first|((with_reducible refine gate_dst (N:=1) rfl ?_);refine box_event ?hg (N:=1) ?hd (cs:=#[.int .i64 a0_0,.int .i64 a0_1]) (t:=43) ?hr ?_;(case hd=>rfl);(case hg=>rfl);(case hr=>first|(go_simp;done)|(go_simp;rfl));intro gb211 hg w9 hbox hb;have n0_:=m_ (l5_ (puL HB.out) hb);have n1_:=m_ (hbox);have n2_:=m_ ((by rw [hg];exact (l6_ (puL HB.out)) : w.heap.size ≤ gb211));have n3_:=m_ ((by rw [hg];exact (l6_ (puL HB.out)) : w.heap.size ≤ gb211));revert n0_ n1_ n2_ n3_;clear HB;intro HB BK211 GW211 GE211;clear hb hbox hg;have hcz10_0 : w9.cell? ⟨gb211,0,none⟩ = some (.int .i64 a0_0):=(c_ BK211.out 0).trans rfl;have hcz10_1 : w9.cell? ⟨gb211,1,none⟩ = some (.int .i64 a0_1):=(c_ BK211.out 1).trans rfl)|((with_reducible refine gate_callee (f:=93) rfl ?_);refine goesL_ (some 4) rfl rfl Tryd.func93 (by kernel_rfl) rfl #[.agg #[.int .i64 a0_0,.int .i64 a0_1]] rfl lens ?_;(with_reducible refine (impl_EndInside.calls a0_0 a0_1 false _ A2.out).mono ?_);rintro e w11 ⟨rfl,hb⟩;refine ⟨_,rfl,?_⟩;have n0_:=m_ (blk_below (g:=gb211) (o:=.cells #[.int .i64 a0_0,.int .i64 a0_1] 43 (0,0)) (puB BK211.out) hb);have n1_:=m_ (l5_ (puM HB.out GE211.out) hb);revert n0_ n1_;clear BK211 HB;intro BK211 HB;(try clear hb);(try clear hb2);(try clear hk);(try clear hi);have hcz12_0 : w11.cell? ⟨gb211,0,none⟩ = some (.int .i64 a0_0):=(c_ BK211.out 0).trans rfl;have hcz12_1 : w11.cell? ⟨gb211,1,none⟩ = some (.int .i64 a0_1):=(c_ BK211.out 1).trans rfl)|(go_at_call 94;(with_reducible refine (impl_EndOutside.calls a0_0 a0_1 true _ A7.out).mono ?_);rintro e w13 ⟨rfl,hb⟩;have n0_:=m_ (blk_below (g:=gb211) (o:=.cells #[.int .i64 a0_0,.int .i64 a0_1] 43 (0,0)) (puB BK211.out) hb);have n1_:=m_ (l5_ (puM HB.out GE211.out) hb);revert n0_ n1_;clear BK211 HB;intro BK211 HB;(try clear hb);(try clear hb2);(try clear hk);(try clear hi)))
   go_ret
   exact ⟨eqs,puM HB.out GE211.out⟩
  ·replace c8:=Bool.eq_false_iff.mpr c8
   subst c8
   have H1 : ((impl_EndDoor.f a0_0 a0_1).bind fun t214=>(some t214)) = some r:=by rw [if_neg (show ¬ (false = true) by decide)] at H;exact H
   clear H
   have H:=H1
   clear H1
   replace H:=Option.bind_eq_some_iff.mp H
   obtain ⟨t214,A140,H⟩:=H
   replace H : (some t214) = some r:=H
   have A14:=m_ A140
   clear A140
   obtain rfl:=Option.some.inj H
   go_enter Tryd.func87,Tryd.ntmps87
   go_wp2_with (first|((with_reducible refine gate_dst (N:=1) rfl ?_);refine box_event ?hg (N:=1) ?hd (cs:=#[.int .i64 a0_0,.int .i64 a0_1]) (t:=43) ?hr ?_;(case hd=>rfl);(case hg=>rfl);(case hr=>first|(go_simp;done)|(go_simp;rfl));intro gb211 hg w15 hbox hb;have n0_:=m_ (l5_ (puL HB.out) hb);have n1_:=m_ (hbox);have n2_:=m_ ((by rw [hg];exact (l6_ (puL HB.out)) : w.heap.size ≤ gb211));have n3_:=m_ ((by rw [hg];exact (l6_ (puL HB.out)) : w.heap.size ≤ gb211));revert n0_ n1_ n2_ n3_;clear HB;intro HB BK211 GW211 GE211;clear hb hbox hg;have hcz16_0 : w15.cell? ⟨gb211,0,none⟩ = some (.int .i64 a0_0):=(c_ BK211.out 0).trans rfl;have hcz16_1 : w15.cell? ⟨gb211,1,none⟩ = some (.int .i64 a0_1):=(c_ BK211.out 1).trans rfl)|((with_reducible refine gate_callee (f:=93) rfl ?_);refine goesL_ (some 4) rfl rfl Tryd.func93 (by kernel_rfl) rfl #[.agg #[.int .i64 a0_0,.int .i64 a0_1]] rfl lens ?_;(with_reducible refine (impl_EndInside.calls a0_0 a0_1 false _ A2.out).mono ?_);rintro e w17 ⟨rfl,hb⟩;refine ⟨_,rfl,?_⟩;have n0_:=m_ (blk_below (g:=gb211) (o:=.cells #[.int .i64 a0_0,.int .i64 a0_1] 43 (0,0)) (puB BK211.out) hb);have n1_:=m_ (l5_ (puM HB.out GE211.out) hb);revert n0_ n1_;clear BK211 HB;intro BK211 HB;(try clear hb);(try clear hb2);(try clear hk);(try clear hi);have hcz18_0 : w17.cell? ⟨gb211,0,none⟩ = some (.int .i64 a0_0):=(c_ BK211.out 0).trans rfl;have hcz18_1 : w17.cell? ⟨gb211,1,none⟩ = some (.int .i64 a0_1):=(c_ BK211.out 1).trans rfl)|(go_at_call 94;(with_reducible refine (impl_EndOutside.calls a0_0 a0_1 false _ A7.out).mono ?_);rintro e w19 ⟨rfl,hb⟩;have n0_:=m_ (blk_below (g:=gb211) (o:=.cells #[.int .i64 a0_0,.int .i64 a0_1] 43 (0,0)) (puB BK211.out) hb);have n1_:=m_ (l5_ (puM HB.out GE211.out) hb);revert n0_ n1_;clear BK211 HB;intro BK211 HB;(try clear hb);(try clear hb2);(try clear hk);(try clear hi);have hcz20_0 : w19.cell? ⟨gb211,0,none⟩ = some (.int .i64 a0_0):=(c_ BK211.out 0).trans rfl;have hcz20_1 : w19.cell? ⟨gb211,1,none⟩ = some (.int .i64 a0_1):=(c_ BK211.out 1).trans rfl)|(go_at_call 95;(with_reducible refine (impl_EndDoor.calls a0_0 a0_1 t214 _ A14.out).mono ?_);rintro e w21 ⟨rfl,hb⟩;have n0_:=m_ (blk_below (g:=gb211) (o:=.cells #[.int .i64 a0_0,.int .i64 a0_1] 43 (0,0)) (puB BK211.out) hb);have n1_:=m_ (l5_ (puM HB.out GE211.out) hb);revert n0_ n1_;clear BK211 HB;intro BK211 HB;(try clear hb);(try clear hb2);(try clear hk);(try clear hi)))
   go_ret
   exact ⟨eqs,puM HB.out GE211.out⟩

/-! ### strconv_Itoa: function 88 -/
/-- Of a number from 0 to 99: its decimals. -/
def strconv_Itoa.f (a0 : Int) : Option (ByteArray) := if 0 ≤ a0 ∧ a0 ≤ 99 then some ⟨(Lib.decDigits a0.toNat).toArray⟩ else none
theorem strconv_Itoa.calls (a0 : Int) (r : ByteArray) (w : World) (h : strconv_Itoa.f a0 = some r) :
  Calls Tryd.prog 88 #[.int .i64 a0] w fun e w'=>e = .returned (.string r) ∧ Below w.heap.size w w':=by
 unfold strconv_Itoa.f at h
 by_cases hs : 0 ≤ a0 ∧ a0 ≤ 99
 ·rw [if_pos hs] at h
  obtain rfl:=Option.some.inj h
  have e : (.int .i64 a0 : Value) = .int .i64 ((a0.toNat : Nat) : Int):=by rw [Int.toNat_of_nonneg hs.1]
  rw [e]
  refine (Go.Proofs.Tryd.strconv_Itoa_small a0.toNat (by omega) w).mono ?_
  rintro e w' ⟨rfl,rfl⟩
  exact ⟨rfl,Below.refl _ _⟩
 ·rw [if_neg hs] at h;cases h

/-! ### impl_EndText: function 76 -/
def impl_EndText.f (a0_0 : Int) (a0_1 : Int) : Option (ByteArray) := (impl_End_any.f a0_0 a0_1).bind fun t216 => (if t216 = true then ((strconv_Itoa.f a0_0).bind fun t217 => (if t217.size + 1 ≤ 9223372036854775807 then ((strconv_Itoa.f a0_1).bind fun t218 => (if t217.size + 1 + t218.size ≤ 9223372036854775807 then (some ((t217 ++ (⟨#[58]⟩ : ByteArray)) ++ t218)) else (none))) else (none))) else (some (⟨#[]⟩ : ByteArray)))
def impl_EndText.T3 : Bool × List (List Nat × List Nat) := (true, [([], []), ([0], [0]), ([1], [1]), ([2], [2]), ([], []), ([4], [4]), ([5, 2], [5]), ([3, 6], [3, 6]), ([7, 6, 0, 1, 2, 3, 4, 5, 6, 7], [7])])
def impl_EndText.B3 : List Nat := [0, 1, 3, 7, 0, 16, 55, 127, 255]
theorem impl_EndText.tab3 : rtab .any (opsOf Tryd.f76 3) = impl_EndText.T3 := by kernel_rfl
theorem impl_EndText.bits3 : waitsOk impl_EndText.T3.2 impl_EndText.B3 = true := by kernel_rfl
theorem impl_EndText.calls (a0_0 : Int) (a0_1 : Int) (r : ByteArray) (w : World) (h : impl_EndText.f a0_0 a0_1 = some r) :
  Calls Tryd.prog 76 #[.agg #[.int .i64 a0_0,.int .i64 a0_1]] w fun e w'=>e = .returned (.string r) ∧ Below w.heap.size w w':=by
 have hu43:=Tryd.underlying43
 have HB:=m_ (Below.refl w.heap.size w)
 have H : ((impl_End_any.f a0_0 a0_1).bind fun t216=>(if t216 = true then ((strconv_Itoa.f a0_0).bind fun t217=>(if t217.size + 1 ≤ 9223372036854775807 then ((strconv_Itoa.f a0_1).bind fun t218=>(if t217.size + 1 + t218.size ≤ 9223372036854775807 then (some ((t217 ++ (⟨#[58]⟩ : ByteArray)) ++ t218)) else (none))) else (none))) else (some (⟨#[]⟩ : ByteArray)))) = some r:=h
 clear h
 replace H:=Option.bind_eq_some_iff.mp H
 obtain ⟨t216,A20,H⟩:=H
 replace H : (if t216 = true then ((strconv_Itoa.f a0_0).bind fun t217=>(if t217.size + 1 ≤ 9223372036854775807 then ((strconv_Itoa.f a0_1).bind fun t218=>(if t217.size + 1 + t218.size ≤ 9223372036854775807 then (some ((t217 ++ (⟨#[58]⟩ : ByteArray)) ++ t218)) else (none))) else (none))) else (some (⟨#[]⟩ : ByteArray))) = some r:=H
 have A2:=m_ A20
 clear A20
 by_cases c3 : t216 = true
 ·subst c3
  have H1 : ((strconv_Itoa.f a0_0).bind fun t217=>(if t217.size + 1 ≤ 9223372036854775807 then ((strconv_Itoa.f a0_1).bind fun t218=>(if t217.size + 1 + t218.size ≤ 9223372036854775807 then (some ((t217 ++ (⟨#[58]⟩ : ByteArray)) ++ t218)) else (none))) else (none))) = some r:=by rw [if_pos rfl] at H;exact H
  clear H
  have H:=H1
  clear H1
  replace H:=Option.bind_eq_some_iff.mp H
  obtain ⟨t217,A40,H⟩:=H
  replace H : (if t217.size + 1 ≤ 9223372036854775807 then ((strconv_Itoa.f a0_1).bind fun t218=>(if t217.size + 1 + t218.size ≤ 9223372036854775807 then (some ((t217 ++ (⟨#[58]⟩ : ByteArray)) ++ t218)) else (none))) else (none)) = some r:=H
  have A4:=m_ A40
  clear A40
  by_cases c5 : t217.size + 1 ≤ 9223372036854775807
  rotate_left
  ·rw [if_neg c5] at H
   exact absurd H (by simp)
  rw [if_pos c5] at H
  have c5b0:=eq_true c5
  have c5b1:=decide_eq_true c5
  try have c5b2 : (9223372036854775807 < t217.size + 1) = False:=eq_false (Nat.not_lt.2 c5)
  replace H:=Option.bind_eq_some_iff.mp H
  obtain ⟨t218,A60,H⟩:=H
  replace H : (if t217.size + 1 + t218.size ≤ 9223372036854775807 then (some ((t217 ++ (⟨#[58]⟩ : ByteArray)) ++ t218)) else (none)) = some r:=H
  have A6:=m_ A60
  clear A60
  by_cases c7 : t217.size + 1 + t218.size ≤ 9223372036854775807
  rotate_left
  ·rw [if_neg c7] at H
   exact absurd H (by simp)
  rw [if_pos c7] at H
  have c7b0:=eq_true c7
  have c7b1:=decide_eq_true c7
  try have c7b2 : (9223372036854775807 < t217.size + 1 + t218.size) = False:=eq_false (Nat.not_lt.2 c7)
  obtain rfl:=Option.some.inj H
  go_enter Tryd.func76,Tryd.ntmps76
  try go_wp2_with (first|((with_reducible refine gate_dst (N:=1) rfl ?_);refine box_event ?hg (N:=1) ?hd (cs:=#[.int .i64 a0_0,.int .i64 a0_1]) (t:=43) ?hr ?_;(case hd=>rfl);(case hg=>rfl);(case hr=>first|(go_simp;done)|(go_simp;rfl));intro gb215 hg w8 hbox hb;have n0_:=m_ (l5_ (puL HB.out) hb);have n1_:=m_ (hbox);have n2_:=m_ ((by rw [hg];exact (l6_ (puL HB.out)) : w.heap.size ≤ gb215));have n3_:=m_ ((by rw [hg];exact (l6_ (puL HB.out)) : w.heap.size ≤ gb215));revert n0_ n1_ n2_ n3_;clear HB;intro HB BK215 GW215 GE215;clear hb hbox hg;have hcz9_0 : w8.cell? ⟨gb215,0,none⟩ = some (.int .i64 a0_0):=(c_ BK215.out 0).trans rfl;have hcz9_1 : w8.cell? ⟨gb215,1,none⟩ = some (.int .i64 a0_1):=(c_ BK215.out 1).trans rfl)|((with_reducible refine gate_callee (f:=87) rfl ?_);refine goesL_ (some 4) rfl rfl Tryd.func87 (by kernel_rfl) rfl #[.agg #[.int .i64 a0_0,.int .i64 a0_1]] rfl lens ?_;(with_reducible refine (impl_End_any.calls a0_0 a0_1 true _ A2.out).mono ?_);rintro e w10 ⟨rfl,hb⟩;refine ⟨_,rfl,?_⟩;have n0_:=m_ (blk_below (g:=gb215) (o:=.cells #[.int .i64 a0_0,.int .i64 a0_1] 43 (0,0)) (puB BK215.out) hb);have n1_:=m_ (l5_ (puM HB.out GE215.out) hb);revert n0_ n1_;clear BK215 HB;intro BK215 HB;(try clear hb);(try clear hb2);(try clear hk);(try clear hi)))
  have n0_:=m_ (b2_ BK215.out)
  have n1_:=m_ (l3_ HB.out)
  clear BK215
  clear HB
  have BK215:=n0_
  have HB:=n1_
  clear n0_ n1_
  refine start_ (n:=9) (S:=fun w'=>w'.cell? ⟨gb215,0,none⟩ = some (.int .i64 a0_0) ∧ w'.cell? ⟨gb215,1,none⟩ = some (.int .i64 a0_1)) (ds:=[]) #[false,false,false,false,false,false,false,false,false] (by kernel_rfl) rfl rfl ⟨(c_ BK215.out 0).trans rfl,(c_ BK215.out 1).trans rfl⟩ (fun hHeld=>?_);refine with_tabW impl_EndText.tab3 impl_EndText.bits3 (fun HT_ HW_=>?_)
  generalize w10.drew = w11 at BK215 HB hHeld ⊢
  refine pureA 0 (some 6) HT_.out ?_
  refine pureA 4 (some 10) HT_.out ?_
  refine takeA 1 (some 7) rfl rfl HT_.out HW_.out hHeld ?_ (by rintro w' ⟨s0,s1⟩;go_simp;with_reducible rfl)
  refine takeA 5 (some 11) rfl rfl HT_.out HW_.out hHeld ?_ (by rintro w' ⟨s0,s1⟩;go_simp;with_reducible rfl)
  refine one_ (i:=2) (N:=some 8) #[true,true,true,false,true,true,false,false,false] rfl rfl (one_of HT_.out (by kernel_rfl)) (by decide) (fun K hK=>?_)
  refine goes_ Tryd.func88 (by kernel_rfl) rfl #[.int .i64 a0_0] (by rfl) rfl rfl lens ?_
  with_reducible refine (strconv_Itoa.calls a0_0 t217 _ A4.out).mono ?_
  rintro e w12 ⟨rfl,hb⟩
  refine ⟨_,rfl,?_⟩
  have n0_:=m_ (blk_below (g:=gb215) (o:=.cells #[.int .i64 a0_0,.int .i64 a0_1] 43 (0,0)) (puB BK215.out) hb)
  have n1_:=m_ (l5_ (puM HB.out GE215.out) hb)
  clear BK215
  clear HB
  have BK215:=n0_
  have HB:=n1_
  clear n0_ n1_
  (try clear hb)
  (try clear hb2)
  (try clear hk)
  (try clear hi)
  refine hK.out _ _ ⟨(c_ BK215.out 0).trans rfl,(c_ BK215.out 1).trans rfl⟩ (fun hHeld=>?_)
  clear hK K
  refine norm_ (a':=?_) ?_ ?_
  rotate_left
  ·show Act.put _ (some 8) _ = _
   simp only [Act.put,s1_,s2_,s3_,i64_w,i32_w]
   rfl
  refine pureA 3 (some 9) HT_.out ?_
  refine one_ (i:=6) (N:=some 12) #[true,true,true,true,true,true,true,false,false] rfl rfl (one_of HT_.out (by kernel_rfl)) (by decide) (fun K hK=>?_)
  refine goes_ Tryd.func88 (by kernel_rfl) rfl #[.int .i64 a0_1] (by rfl) rfl rfl lens ?_
  with_reducible refine (strconv_Itoa.calls a0_1 t218 _ A6.out).mono ?_
  rintro e w13 ⟨rfl,hb⟩
  refine ⟨_,rfl,?_⟩
  have n0_:=m_ (blk_below (g:=gb215) (o:=.cells #[.int .i64 a0_0,.int .i64 a0_1] 43 (0,0)) (puB BK215.out) hb)
  have n1_:=m_ (l5_ (puM HB.out GE215.out) hb)
  clear BK215
  clear HB
  have BK215:=n0_
  have HB:=n1_
  clear n0_ n1_
  (try clear hb)
  (try clear hb2)
  (try clear hk)
  (try clear hi)
  refine hK.out _ _ ⟨(c_ BK215.out 0).trans rfl,(c_ BK215.out 1).trans rfl⟩ (fun hHeld=>?_)
  clear hK K
  refine norm_ (a':=?_) ?_ ?_
  rotate_left
  ·show Act.put _ (some 12) _ = _
   simp only [Act.put,s1_,s2_,s3_,i64_w,i32_w]
   rfl
  refine pureA 7 (some 13) HT_.out ?_
  refine pureA 8 (some 2) HT_.out ?_
  refine done_ (done_of HT_.out (by kernel_rfl)) ?_
  try go_wp2
  go_ret
  exact ⟨eqs,puM HB.out GE215.out⟩
 ·replace c3:=Bool.eq_false_iff.mpr c3
  subst c3
  have H1 : (some (⟨#[]⟩ : ByteArray)) = some r:=by rw [if_neg (show ¬ (false = true) by decide)] at H;exact H
  clear H
  have H:=H1
  clear H1
  obtain rfl:=Option.some.inj H
  go_enter Tryd.func76,Tryd.ntmps76
  go_wp2_with (first|((with_reducible refine gate_dst (N:=1) rfl ?_);refine box_event ?hg (N:=1) ?hd (cs:=#[.int .i64 a0_0,.int .i64 a0_1]) (t:=43) ?hr ?_;(case hd=>rfl);(case hg=>rfl);(case hr=>first|(go_simp;done)|(go_simp;rfl));intro gb215 hg w14 hbox hb;have n0_:=m_ (l5_ (puL HB.out) hb);have n1_:=m_ (hbox);have n2_:=m_ ((by rw [hg];exact (l6_ (puL HB.out)) : w.heap.size ≤ gb215));have n3_:=m_ ((by rw [hg];exact (l6_ (puL HB.out)) : w.heap.size ≤ gb215));revert n0_ n1_ n2_ n3_;clear HB;intro HB BK215 GW215 GE215;clear hb hbox hg;have hcz15_0 : w14.cell? ⟨gb215,0,none⟩ = some (.int .i64 a0_0):=(c_ BK215.out 0).trans rfl;have hcz15_1 : w14.cell? ⟨gb215,1,none⟩ = some (.int .i64 a0_1):=(c_ BK215.out 1).trans rfl)|((with_reducible refine gate_callee (f:=87) rfl ?_);refine goesL_ (some 4) rfl rfl Tryd.func87 (by kernel_rfl) rfl #[.agg #[.int .i64 a0_0,.int .i64 a0_1]] rfl lens ?_;(with_reducible refine (impl_End_any.calls a0_0 a0_1 false _ A2.out).mono ?_);rintro e w16 ⟨rfl,hb⟩;refine ⟨_,rfl,?_⟩;have n0_:=m_ (blk_below (g:=gb215) (o:=.cells #[.int .i64 a0_0,.int .i64 a0_1] 43 (0,0)) (puB BK215.out) hb);have n1_:=m_ (l5_ (puM HB.out GE215.out) hb);revert n0_ n1_;clear BK215 HB;intro BK215 HB;(try clear hb);(try clear hb2);(try clear hk);(try clear hi)))
  go_ret
  exact ⟨eqs,puM HB.out GE215.out⟩

/-! ### strconv_Atoi: function 86 -/
/-- Of a numeral its number; else an error, of which only that it is one is told. -/
def strconv_Atoi.f (a0 : ByteArray) : Option (Int × Option Int) := if a0.size ≤ 281474976710656 then (match Lib.atoiAll a0.data.toList with | .ok v => some (v, none) | .range => some (Lib.atoiSat a0.data.toList, some 0) | _ => some (0, some 0)) else none
def ErrIs : Option Int → Value → Prop
 | none, E => E = .nilIface
 | some _, E => ∃ t p, E = .iface t p
theorem below_bytes_ {w w' : World} {t : TypeId} {s : ByteArray} (h : w' = w ∨ ∃ s', w' = Lib.bytesWorld w t s') : Below w.heap.size w w' := by
 rcases h with rfl|⟨s',rfl⟩
 ·exact Below.refl _ _
 ·exact Lib.bytesWorld_below _ _ _
theorem strconv_Atoi.calls (a0 : ByteArray) (r1 : Int) (r2 : Option Int) (w : World) (hG : GV w) (h : strconv_Atoi.f a0 = some (r1, r2)) :
  Calls Tryd.prog 86 #[.string a0] w fun e w'=>∃ E,ErrIs r2 E ∧ e = .returned (.tuple #[.int .i64 r1,E]) ∧ Below w.heap.size w w':=by
 unfold strconv_Atoi.f at h
 by_cases hs : a0.size ≤ 281474976710656
 ·rw [if_pos hs] at h
  obtain ⟨⟨t,p,g1⟩,⟨t',p',g2⟩⟩:=hG
  cases hc : Lib.atoiAll a0.data.toList with
  | ok v =>
   rw [hc] at h
   obtain ⟨rfl,rfl⟩:=Prod.mk.inj (Option.some.inj h)
   refine (Go.Proofs.Tryd.strconv_Atoi_ok a0 (by omega) v hc w).mono ?_
   rintro e w' ⟨rfl,hw⟩
   exact ⟨_,rfl,rfl,below_bytes_ (s:=a0) hw⟩
  | range =>
   rw [hc] at h
   obtain ⟨rfl,rfl⟩:=Prod.mk.inj (Option.some.inj h)
   refine (Go.Proofs.Tryd.strconv_Atoi_range a0 hs hc _ w g2 (Or.inr ⟨_,_,rfl⟩)).mono ?_
   rintro e w' ⟨N,rfl,_,_,hb⟩
   exact ⟨_,⟨_,_,rfl⟩,rfl,hb⟩
  | _ =>
   rw [hc] at h
   obtain ⟨rfl,rfl⟩:=Prod.mk.inj (Option.some.inj h)
   refine (Go.Proofs.Tryd.strconv_Atoi_syntax a0 hs (fun v e=>by rw [hc] at e;cases e) (fun e=>by rw [hc] at e;cases e) _ w g1 (Or.inr ⟨_,_,rfl⟩)).mono ?_
   rintro e w' ⟨N,rfl,_,_,hb⟩
   exact ⟨_,⟨_,_,rfl⟩,rfl,hb⟩
 ·rw [if_neg hs] at h;cases h

/-! ### impl_EndRead: function 75 -/
def impl_EndRead.f (a0 : ByteArray) : Option (Int × Int × Bool) := (strings_Cut.f a0 (⟨#[58]⟩ : ByteArray)).bind fun bt220 => ((strconv_Atoi.f bt220.1).bind fun bt223 => ((strconv_Atoi.f bt220.2.1).bind fun bt225 => (if bt223.2.isNone = true then (if bt225.2.isNone = true then ((impl_End_any.f bt223.1 bt225.1).bind fun t230 => (if t230 = true then ((impl_EndText.f bt223.1 bt225.1).bind fun t231 => (if t231.toList = a0.toList then (some (bt223.1, bt225.1, true)) else (some (0, 0, false)))) else (some (0, 0, false)))) else (some (0, 0, false))) else (some (0, 0, false)))))
theorem impl_EndRead.calls (a0 : ByteArray) (r1 : Int) (r2 : Int) (r3 : Bool) (w : World) (hG : GV w) (h : impl_EndRead.f a0 = some (r1, r2, r3)) :
  Calls Tryd.prog 75 #[.string a0] w fun e w'=>e = .returned (.tuple #[.agg #[.int .i64 r1,.int .i64 r2],.bool r3]) ∧ Below w.heap.size w w':=by
 have hu43:=Tryd.underlying43
 have hu74:=Tryd.underlying74
 have HG:=m_ hG
 clear hG
 have HB:=m_ (Below.refl w.heap.size w)
 have H : ((strings_Cut.f a0 (⟨#[58]⟩ : ByteArray)).bind fun bt220=>((strconv_Atoi.f bt220.1).bind fun bt223=>((strconv_Atoi.f bt220.2.1).bind fun bt225=>(if bt223.2.isNone = true then (if bt225.2.isNone = true then ((impl_End_any.f bt223.1 bt225.1).bind fun t230=>(if t230 = true then ((impl_EndText.f bt223.1 bt225.1).bind fun t231=>(if t231.toList = a0.toList then (some (bt223.1,bt225.1,true)) else (some (0,0,false)))) else (some (0,0,false)))) else (some (0,0,false))) else (some (0,0,false)))))) = some (r1,r2,r3):=h
 clear h
 replace H:=Option.bind_eq_some_iff.mp H
 obtain ⟨⟨t220,t221,t222⟩,A20,H⟩:=H
 replace H : ((strconv_Atoi.f t220).bind fun bt223=>((strconv_Atoi.f t221).bind fun bt225=>(if bt223.2.isNone = true then (if bt225.2.isNone = true then ((impl_End_any.f bt223.1 bt225.1).bind fun t230=>(if t230 = true then ((impl_EndText.f bt223.1 bt225.1).bind fun t231=>(if t231.toList = a0.toList then (some (bt223.1,bt225.1,true)) else (some (0,0,false)))) else (some (0,0,false)))) else (some (0,0,false))) else (some (0,0,false))))) = some (r1,r2,r3):=H
 have A2:=m_ A20
 clear A20
 replace H:=Option.bind_eq_some_iff.mp H
 obtain ⟨⟨t223,t224⟩,A30,H⟩:=H
 replace H : ((strconv_Atoi.f t221).bind fun bt225=>(if t224.isNone = true then (if bt225.2.isNone = true then ((impl_End_any.f t223 bt225.1).bind fun t230=>(if t230 = true then ((impl_EndText.f t223 bt225.1).bind fun t231=>(if t231.toList = a0.toList then (some (t223,bt225.1,true)) else (some (0,0,false)))) else (some (0,0,false)))) else (some (0,0,false))) else (some (0,0,false)))) = some (r1,r2,r3):=H
 have A3:=m_ A30
 clear A30
 replace H:=Option.bind_eq_some_iff.mp H
 obtain ⟨⟨t225,t226⟩,A40,H⟩:=H
 replace H : (if t224.isNone = true then (if t226.isNone = true then ((impl_End_any.f t223 t225).bind fun t230=>(if t230 = true then ((impl_EndText.f t223 t225).bind fun t231=>(if t231.toList = a0.toList then (some (t223,t225,true)) else (some (0,0,false)))) else (some (0,0,false)))) else (some (0,0,false))) else (some (0,0,false))) = some (r1,r2,r3):=H
 have A4:=m_ A40
 clear A40
 rcases t224 with _|q228
 ·have H1 : (if t226.isNone = true then ((impl_End_any.f t223 t225).bind fun t230=>(if t230 = true then ((impl_EndText.f t223 t225).bind fun t231=>(if t231.toList = a0.toList then (some (t223,t225,true)) else (some (0,0,false)))) else (some (0,0,false)))) else (some (0,0,false))) = some (r1,r2,r3):=by rw [if_pos (show (none : Option Int).isNone = true by rfl)] at H;exact H
  clear H
  have H:=H1
  clear H1
  try simp only [e1_,e2_]
  rcases t226 with _|q229
  ·have H1 : ((impl_End_any.f t223 t225).bind fun t230=>(if t230 = true then ((impl_EndText.f t223 t225).bind fun t231=>(if t231.toList = a0.toList then (some (t223,t225,true)) else (some (0,0,false)))) else (some (0,0,false)))) = some (r1,r2,r3):=by rw [if_pos (show (none : Option Int).isNone = true by rfl)] at H;exact H
   clear H
   have H:=H1
   clear H1
   try simp only [e1_,e2_]
   replace H:=Option.bind_eq_some_iff.mp H
   obtain ⟨t230,A50,H⟩:=H
   replace H : (if t230 = true then ((impl_EndText.f t223 t225).bind fun t231=>(if t231.toList = a0.toList then (some (t223,t225,true)) else (some (0,0,false)))) else (some (0,0,false))) = some (r1,r2,r3):=H
   have A5:=m_ A50
   clear A50
   by_cases c6 : t230 = true
   ·subst c6
    have H1 : ((impl_EndText.f t223 t225).bind fun t231=>(if t231.toList = a0.toList then (some (t223,t225,true)) else (some (0,0,false)))) = some (r1,r2,r3):=by rw [if_pos rfl] at H;exact H
    clear H
    have H:=H1
    clear H1
    replace H:=Option.bind_eq_some_iff.mp H
    obtain ⟨t231,A70,H⟩:=H
    replace H : (if t231.toList = a0.toList then (some (t223,t225,true)) else (some (0,0,false))) = some (r1,r2,r3):=H
    have A7:=m_ A70
    clear A70
    by_cases c8 : t231.toList = a0.toList
    ·rw [if_pos c8] at H
     have c8b0 : (t231.toList == a0.toList) = true:=beq_iff_eq.mpr c8
     have c8b1 : (t231.toList != a0.toList) = false:=bne_eq_false_iff_eq.mpr c8
     clear c8
     simp only [Option.some.injEq,Prod.mk.injEq] at H
     obtain ⟨rfl,rfl,rfl⟩:=H
     go_enter Tryd.func75,Tryd.ntmps75
     go_wp2_with (first|((with_reducible refine gate_dst (N:=2) rfl ?_);refine box_event ?hg (N:=2) ?hd (cs:=#[.int .i64 0,.int .i64 0]) (t:=43) ?hr ?_;(case hd=>rfl);(case hg=>rfl);(case hr=>first|(go_simp;done)|(go_simp;rfl));intro gb219 hg w9 hbox hb;have n0_:=m_ (l5_ (puL HB.out) hb);have n1_:=m_ (hbox);have n2_:=m_ ((by rw [hg];exact (l6_ (puL HB.out)) : w.heap.size ≤ gb219));have n3_:=m_ ((by rw [hg];exact (l6_ (puL HB.out)) : w.heap.size ≤ gb219));revert n0_ n1_ n2_ n3_;clear HB;intro HB BK219 GW219 GE219;clear hb hbox hg)|((with_reducible refine gate_callee (f:=74) rfl ?_);refine goesL_ (some 14) rfl rfl Tryd.func74 (by kernel_rfl) rfl #[.string a0,.string (⟨#[58]⟩ : ByteArray)] rfl lens ?_;(with_reducible refine (strings_Cut.calls a0 (⟨#[58]⟩ : ByteArray) t220 t221 t222 _ A2.out).mono ?_);rintro e w10 ⟨rfl,hb⟩;refine ⟨_,rfl,?_⟩;have n0_:=m_ (blk_below (g:=gb219) (o:=.cells #[.int .i64 0,.int .i64 0] 43 (0,0)) (puB BK219.out) hb);have n1_:=m_ (l5_ (puM HB.out GE219.out) hb);revert n0_ n1_;clear BK219 HB;intro BK219 HB;(try clear hb);(try clear hb2);(try clear hk);(try clear hi))|((with_reducible refine gate_callee (f:=86) rfl ?_);refine goesL_ (some 20) rfl rfl Tryd.func86 (by kernel_rfl) rfl #[.string t220] rfl lens ?_;(with_reducible refine (strconv_Atoi.calls t220 t223 none _ ?side1 A3.out).mono ?_);(case side1=>first|(with_reducible exact HG.out)|exact GV_below HG.out (puM HB.out GE219.out));rintro e w11 ⟨E_,hE_,rfl,hb⟩;obtain rfl:=hE_;refine ⟨_,rfl,?_⟩;have n0_:=m_ (blk_below (g:=gb219) (o:=.cells #[.int .i64 0,.int .i64 0] 43 (0,0)) (puB BK219.out) hb);have n1_:=m_ (l5_ (puM HB.out GE219.out) hb);revert n0_ n1_;clear BK219 HB;intro BK219 HB;(try clear hb);(try clear hb2);(try clear hk);(try clear hi);(try simp only [e1_,e2_]))|((with_reducible refine gate_callee (f:=86) rfl ?_);refine goesL_ (some 25) rfl rfl Tryd.func86 (by kernel_rfl) rfl #[.string t221] rfl lens ?_;(with_reducible refine (strconv_Atoi.calls t221 t225 none _ ?side1 A4.out).mono ?_);(case side1=>first|(with_reducible exact HG.out)|exact GV_below HG.out (puM HB.out GE219.out));rintro e w12 ⟨E_,hE_,rfl,hb⟩;obtain rfl:=hE_;refine ⟨_,rfl,?_⟩;have n0_:=m_ (blk_below (g:=gb219) (o:=.cells #[.int .i64 0,.int .i64 0] 43 (0,0)) (puB BK219.out) hb);have n1_:=m_ (l5_ (puM HB.out GE219.out) hb);revert n0_ n1_;clear BK219 HB;intro BK219 HB;(try clear hb);(try clear hb2);(try clear hk);(try clear hi);(try simp only [e1_,e2_]))|((with_reducible refine gate_dst (N:=11) rfl ?_);refine box_event ?hg (N:=11) ?hd (cs:=#[.int .i64 0,.int .i64 0]) (t:=43) ?hr ?_;(case hd=>rfl);(case hg=>rfl);(case hr=>first|(go_simp;done)|(go_simp;rfl));intro gb227 hg w13 hbox hb;have n0_:=m_ (blk_below (g:=gb219) (o:=.cells #[.int .i64 0,.int .i64 0] 43 (0,0)) (puB BK219.out) hb);have n1_:=m_ (l5_ (puM HB.out GE219.out) hb);have n2_:=m_ (hbox);have n3_:=m_ ((by rw [hg];exact (l6_ (puM HB.out GE219.out)) : w.heap.size ≤ gb227));have n4_:=n3_;have n5_:=m_ ((by rw [hg];exact Nat.ne_of_lt (blk_lt (g:=gb219) (o:=.cells #[.int .i64 0,.int .i64 0] 43 (0,0)) (puB BK219.out)) : gb219 ≠ gb227));have n6_:=m_ ((by rw [hg];exact Nat.ne_of_gt (blk_lt (g:=gb219) (o:=.cells #[.int .i64 0,.int .i64 0] 43 (0,0)) (puB BK219.out)) : gb227 ≠ gb219));revert n0_ n1_ n2_ n3_ n4_ n5_ n6_;clear BK219 HB;intro BK219 HB BK227 GW227 GE227 NB219_227 NB227_219;clear hb hbox hg;have hnb14:=NB227_219.out;have hnc14:=NB219_227.out;have hcz15_0 : w13.cell? ⟨gb227,0,none⟩ = some (.int .i64 0):=(c_ BK227.out 0).trans rfl;have hcz15_1 : w13.cell? ⟨gb227,1,none⟩ = some (.int .i64 0):=(c_ BK227.out 1).trans rfl;have hfz15_0:=f_ BK227.out 0;have hfz15_1:=f_ BK227.out 1)|(go_at_call 87;(with_reducible refine (impl_End_any.calls t223 t225 true _ A5.out).mono ?_);rintro e w16 ⟨rfl,hb⟩;have n0_:=m_ (blk_below (g:=gb219) (o:=.cells #[.int .i64 0,.int .i64 0] 43 (0,0)) (by (with_reducible repeat first|apply b1_|apply b2_|apply b3_);refine b4_ ?_ NB219_227.out _;(with_reducible repeat first|apply b1_|apply b2_|apply b3_);refine b4_ ?_ NB219_227.out _;(with_reducible repeat first|apply b1_|apply b2_|apply b3_);exact BK219.out) hb);have n1_:=m_ (blk_below (g:=gb227) (o:=.cells #[.int .i64 t223,.int .i64 t225] 43 (0,0)) (by (with_reducible repeat first|apply b1_|apply b2_|apply b3_);refine blk_put (cs:=#[.int .i64 t223,.int .i64 0]) ?_ 1 _ rfl;(with_reducible repeat first|apply b1_|apply b2_|apply b3_);refine blk_put (cs:=#[.int .i64 0,.int .i64 0]) ?_ 0 _ rfl;(with_reducible repeat first|apply b1_|apply b2_|apply b3_);exact BK227.out) hb);have n2_:=m_ (l5_ (puN HB.out GE219.out GE227.out) hb);revert n0_ n1_ n2_;clear BK219 BK227 HB;intro BK219 BK227 HB;(try clear hb);(try clear hb2);(try clear hk);(try clear hi);have hcz17_0 : w16.cell? ⟨gb227,0,none⟩ = some (.int .i64 t223):=(c_ BK227.out 0).trans rfl;have hcz17_1 : w16.cell? ⟨gb227,1,none⟩ = some (.int .i64 t225):=(c_ BK227.out 1).trans rfl;have hfz17_0:=f_ BK227.out 0;have hfz17_1:=f_ BK227.out 1)|(go_at_call 76;(with_reducible refine (impl_EndText.calls t223 t225 t231 _ A7.out).mono ?_);rintro e w18 ⟨rfl,hb⟩;have n0_:=m_ (blk_below (g:=gb219) (o:=.cells #[.int .i64 0,.int .i64 0] 43 (0,0)) (puB BK219.out) hb);have n1_:=m_ (blk_below (g:=gb227) (o:=.cells #[.int .i64 t223,.int .i64 t225] 43 (0,0)) (puB BK227.out) hb);have n2_:=m_ (l5_ (puN HB.out GE219.out GE227.out) hb);revert n0_ n1_ n2_;clear BK219 BK227 HB;intro BK219 BK227 HB;(try clear hb);(try clear hb2);(try clear hk);(try clear hi);have hcz19_0 : w18.cell? ⟨gb227,0,none⟩ = some (.int .i64 t223):=(c_ BK227.out 0).trans rfl;have hcz19_1 : w18.cell? ⟨gb227,1,none⟩ = some (.int .i64 t225):=(c_ BK227.out 1).trans rfl;have hfz19_0:=f_ BK227.out 0;have hfz19_1:=f_ BK227.out 1;have hcz20_0 : w18.cell? ⟨gb219,0,none⟩ = some (.int .i64 0):=(c_ BK219.out 0).trans rfl;have hcz20_1 : w18.cell? ⟨gb219,1,none⟩ = some (.int .i64 0):=(c_ BK219.out 1).trans rfl;have hfz20_0:=f_ BK219.out 0;have hfz20_1:=f_ BK219.out 1))
     refine bodyPost_ret (results_ct rfl _ _ gb219 43 #[.int .i64 t223,.int .i64 t225] (0,0) _ rfl (by (with_reducible repeat first|apply b1_|apply b2_|apply b3_);refine blk_put (cs:=#[.int .i64 t223,.int .i64 0]) ?_ 1 _ rfl;(with_reducible repeat first|apply b1_|apply b2_|apply b3_);refine blk_put (cs:=#[.int .i64 0,.int .i64 0]) ?_ 0 _ rfl;(with_reducible repeat first|apply b1_|apply b2_|apply b3_);exact BK219.out) Tryd.underlying43 rfl (by kernel_rfl)) rfl ?_
     exact ⟨eqs,puN HB.out GE219.out GE227.out⟩
    ·rw [if_neg c8] at H
     have c8b0 : (t231.toList == a0.toList) = false:=beq_eq_false_iff_ne.mpr c8
     have c8b1 : (t231.toList != a0.toList) = true:=bne_iff_ne.mpr c8
     simp only [Option.some.injEq,Prod.mk.injEq] at H
     obtain ⟨rfl,rfl,rfl⟩:=H
     go_enter Tryd.func75,Tryd.ntmps75
     go_wp2_with (first|((with_reducible refine gate_dst (N:=2) rfl ?_);refine box_event ?hg (N:=2) ?hd (cs:=#[.int .i64 0,.int .i64 0]) (t:=43) ?hr ?_;(case hd=>rfl);(case hg=>rfl);(case hr=>first|(go_simp;done)|(go_simp;rfl));intro gb219 hg w21 hbox hb;have n0_:=m_ (l5_ (puL HB.out) hb);have n1_:=m_ (hbox);have n2_:=m_ ((by rw [hg];exact (l6_ (puL HB.out)) : w.heap.size ≤ gb219));have n3_:=m_ ((by rw [hg];exact (l6_ (puL HB.out)) : w.heap.size ≤ gb219));revert n0_ n1_ n2_ n3_;clear HB;intro HB BK219 GW219 GE219;clear hb hbox hg)|((with_reducible refine gate_callee (f:=74) rfl ?_);refine goesL_ (some 14) rfl rfl Tryd.func74 (by kernel_rfl) rfl #[.string a0,.string (⟨#[58]⟩ : ByteArray)] rfl lens ?_;(with_reducible refine (strings_Cut.calls a0 (⟨#[58]⟩ : ByteArray) t220 t221 t222 _ A2.out).mono ?_);rintro e w22 ⟨rfl,hb⟩;refine ⟨_,rfl,?_⟩;have n0_:=m_ (blk_below (g:=gb219) (o:=.cells #[.int .i64 0,.int .i64 0] 43 (0,0)) (puB BK219.out) hb);have n1_:=m_ (l5_ (puM HB.out GE219.out) hb);revert n0_ n1_;clear BK219 HB;intro BK219 HB;(try clear hb);(try clear hb2);(try clear hk);(try clear hi))|((with_reducible refine gate_callee (f:=86) rfl ?_);refine goesL_ (some 20) rfl rfl Tryd.func86 (by kernel_rfl) rfl #[.string t220] rfl lens ?_;(with_reducible refine (strconv_Atoi.calls t220 t223 none _ ?side1 A3.out).mono ?_);(case side1=>first|(with_reducible exact HG.out)|exact GV_below HG.out (puM HB.out GE219.out));rintro e w23 ⟨E_,hE_,rfl,hb⟩;obtain rfl:=hE_;refine ⟨_,rfl,?_⟩;have n0_:=m_ (blk_below (g:=gb219) (o:=.cells #[.int .i64 0,.int .i64 0] 43 (0,0)) (puB BK219.out) hb);have n1_:=m_ (l5_ (puM HB.out GE219.out) hb);revert n0_ n1_;clear BK219 HB;intro BK219 HB;(try clear hb);(try clear hb2);(try clear hk);(try clear hi);(try simp only [e1_,e2_]))|((with_reducible refine gate_callee (f:=86) rfl ?_);refine goesL_ (some 25) rfl rfl Tryd.func86 (by kernel_rfl) rfl #[.string t221] rfl lens ?_;(with_reducible refine (strconv_Atoi.calls t221 t225 none _ ?side1 A4.out).mono ?_);(case side1=>first|(with_reducible exact HG.out)|exact GV_below HG.out (puM HB.out GE219.out));rintro e w24 ⟨E_,hE_,rfl,hb⟩;obtain rfl:=hE_;refine ⟨_,rfl,?_⟩;have n0_:=m_ (blk_below (g:=gb219) (o:=.cells #[.int .i64 0,.int .i64 0] 43 (0,0)) (puB BK219.out) hb);have n1_:=m_ (l5_ (puM HB.out GE219.out) hb);revert n0_ n1_;clear BK219 HB;intro BK219 HB;(try clear hb);(try clear hb2);(try clear hk);(try clear hi);(try simp only [e1_,e2_]))|((with_reducible refine gate_dst (N:=11) rfl ?_);refine box_event ?hg (N:=11) ?hd (cs:=#[.int .i64 0,.int .i64 0]) (t:=43) ?hr ?_;(case hd=>rfl);(case hg=>rfl);(case hr=>first|(go_simp;done)|(go_simp;rfl));intro gb227 hg w25 hbox hb;have n0_:=m_ (blk_below (g:=gb219) (o:=.cells #[.int .i64 0,.int .i64 0] 43 (0,0)) (puB BK219.out) hb);have n1_:=m_ (l5_ (puM HB.out GE219.out) hb);have n2_:=m_ (hbox);have n3_:=m_ ((by rw [hg];exact (l6_ (puM HB.out GE219.out)) : w.heap.size ≤ gb227));have n4_:=n3_;have n5_:=m_ ((by rw [hg];exact Nat.ne_of_lt (blk_lt (g:=gb219) (o:=.cells #[.int .i64 0,.int .i64 0] 43 (0,0)) (puB BK219.out)) : gb219 ≠ gb227));have n6_:=m_ ((by rw [hg];exact Nat.ne_of_gt (blk_lt (g:=gb219) (o:=.cells #[.int .i64 0,.int .i64 0] 43 (0,0)) (puB BK219.out)) : gb227 ≠ gb219));revert n0_ n1_ n2_ n3_ n4_ n5_ n6_;clear BK219 HB;intro BK219 HB BK227 GW227 GE227 NB219_227 NB227_219;clear hb hbox hg;have hnb26:=NB227_219.out;have hnc26:=NB219_227.out;have hcz27_0 : w25.cell? ⟨gb227,0,none⟩ = some (.int .i64 0):=(c_ BK227.out 0).trans rfl;have hcz27_1 : w25.cell? ⟨gb227,1,none⟩ = some (.int .i64 0):=(c_ BK227.out 1).trans rfl;have hfz27_0:=f_ BK227.out 0;have hfz27_1:=f_ BK227.out 1)|(go_at_call 87;(with_reducible refine (impl_End_any.calls t223 t225 true _ A5.out).mono ?_);rintro e w28 ⟨rfl,hb⟩;have n0_:=m_ (blk_below (g:=gb219) (o:=.cells #[.int .i64 0,.int .i64 0] 43 (0,0)) (by (with_reducible repeat first|apply b1_|apply b2_|apply b3_);refine b4_ ?_ NB219_227.out _;(with_reducible repeat first|apply b1_|apply b2_|apply b3_);refine b4_ ?_ NB219_227.out _;(with_reducible repeat first|apply b1_|apply b2_|apply b3_);exact BK219.out) hb);have n1_:=m_ (blk_below (g:=gb227) (o:=.cells #[.int .i64 t223,.int .i64 t225] 43 (0,0)) (by (with_reducible repeat first|apply b1_|apply b2_|apply b3_);refine blk_put (cs:=#[.int .i64 t223,.int .i64 0]) ?_ 1 _ rfl;(with_reducible repeat first|apply b1_|apply b2_|apply b3_);refine blk_put (cs:=#[.int .i64 0,.int .i64 0]) ?_ 0 _ rfl;(with_reducible repeat first|apply b1_|apply b2_|apply b3_);exact BK227.out) hb);have n2_:=m_ (l5_ (puN HB.out GE219.out GE227.out) hb);revert n0_ n1_ n2_;clear BK219 BK227 HB;intro BK219 BK227 HB;(try clear hb);(try clear hb2);(try clear hk);(try clear hi);have hcz29_0 : w28.cell? ⟨gb227,0,none⟩ = some (.int .i64 t223):=(c_ BK227.out 0).trans rfl;have hcz29_1 : w28.cell? ⟨gb227,1,none⟩ = some (.int .i64 t225):=(c_ BK227.out 1).trans rfl;have hfz29_0:=f_ BK227.out 0;have hfz29_1:=f_ BK227.out 1)|(go_at_call 76;(with_reducible refine (impl_EndText.calls t223 t225 t231 _ A7.out).mono ?_);rintro e w30 ⟨rfl,hb⟩;have n0_:=m_ (blk_below (g:=gb219) (o:=.cells #[.int .i64 0,.int .i64 0] 43 (0,0)) (puB BK219.out) hb);have n1_:=m_ (blk_below (g:=gb227) (o:=.cells #[.int .i64 t223,.int .i64 t225] 43 (0,0)) (puB BK227.out) hb);have n2_:=m_ (l5_ (puN HB.out GE219.out GE227.out) hb);revert n0_ n1_ n2_;clear BK219 BK227 HB;intro BK219 BK227 HB;(try clear hb);(try clear hb2);(try clear hk);(try clear hi);have hcz31_0 : w30.cell? ⟨gb219,0,none⟩ = some (.int .i64 0):=(c_ BK219.out 0).trans rfl;have hcz31_1 : w30.cell? ⟨gb219,1,none⟩ = some (.int .i64 0):=(c_ BK219.out 1).trans rfl;have hfz31_0:=f_ BK219.out 0;have hfz31_1:=f_ BK219.out 1))
     refine bodyPost_ret (results_ct rfl _ _ gb219 43 #[.int .i64 0,.int .i64 0] (0,0) _ rfl (by (with_reducible repeat first|apply b1_|apply b2_|apply b3_);refine blk_put (cs:=#[.int .i64 0,.int .i64 0]) ?_ 1 _ rfl;(with_reducible repeat first|apply b1_|apply b2_|apply b3_);refine blk_put (cs:=#[.int .i64 0,.int .i64 0]) ?_ 0 _ rfl;(with_reducible repeat first|apply b1_|apply b2_|apply b3_);exact BK219.out) Tryd.underlying43 rfl (by kernel_rfl)) rfl ?_
     exact ⟨eqs,puN HB.out GE219.out GE227.out⟩
   ·replace c6:=Bool.eq_false_iff.mpr c6
    subst c6
    have H1 : (some (0,0,false)) = some (r1,r2,r3):=by rw [if_neg (show ¬ (false = true) by decide)] at H;exact H
    clear H
    have H:=H1
    clear H1
    simp only [Option.some.injEq,Prod.mk.injEq] at H
    obtain ⟨rfl,rfl,rfl⟩:=H
    go_enter Tryd.func75,Tryd.ntmps75
    go_wp2_with (first|((with_reducible refine gate_dst (N:=2) rfl ?_);refine box_event ?hg (N:=2) ?hd (cs:=#[.int .i64 0,.int .i64 0]) (t:=43) ?hr ?_;(case hd=>rfl);(case hg=>rfl);(case hr=>first|(go_simp;done)|(go_simp;rfl));intro gb219 hg w32 hbox hb;have n0_:=m_ (l5_ (puL HB.out) hb);have n1_:=m_ (hbox);have n2_:=m_ ((by rw [hg];exact (l6_ (puL HB.out)) : w.heap.size ≤ gb219));have n3_:=m_ ((by rw [hg];exact (l6_ (puL HB.out)) : w.heap.size ≤ gb219));revert n0_ n1_ n2_ n3_;clear HB;intro HB BK219 GW219 GE219;clear hb hbox hg)|((with_reducible refine gate_callee (f:=74) rfl ?_);refine goesL_ (some 14) rfl rfl Tryd.func74 (by kernel_rfl) rfl #[.string a0,.string (⟨#[58]⟩ : ByteArray)] rfl lens ?_;(with_reducible refine (strings_Cut.calls a0 (⟨#[58]⟩ : ByteArray) t220 t221 t222 _ A2.out).mono ?_);rintro e w33 ⟨rfl,hb⟩;refine ⟨_,rfl,?_⟩;have n0_:=m_ (blk_below (g:=gb219) (o:=.cells #[.int .i64 0,.int .i64 0] 43 (0,0)) (puB BK219.out) hb);have n1_:=m_ (l5_ (puM HB.out GE219.out) hb);revert n0_ n1_;clear BK219 HB;intro BK219 HB;(try clear hb);(try clear hb2);(try clear hk);(try clear hi))|((with_reducible refine gate_callee (f:=86) rfl ?_);refine goesL_ (some 20) rfl rfl Tryd.func86 (by kernel_rfl) rfl #[.string t220] rfl lens ?_;(with_reducible refine (strconv_Atoi.calls t220 t223 none _ ?side1 A3.out).mono ?_);(case side1=>first|(with_reducible exact HG.out)|exact GV_below HG.out (puM HB.out GE219.out));rintro e w34 ⟨E_,hE_,rfl,hb⟩;obtain rfl:=hE_;refine ⟨_,rfl,?_⟩;have n0_:=m_ (blk_below (g:=gb219) (o:=.cells #[.int .i64 0,.int .i64 0] 43 (0,0)) (puB BK219.out) hb);have n1_:=m_ (l5_ (puM HB.out GE219.out) hb);revert n0_ n1_;clear BK219 HB;intro BK219 HB;(try clear hb);(try clear hb2);(try clear hk);(try clear hi);(try simp only [e1_,e2_]))|((with_reducible refine gate_callee (f:=86) rfl ?_);refine goesL_ (some 25) rfl rfl Tryd.func86 (by kernel_rfl) rfl #[.string t221] rfl lens ?_;(with_reducible refine (strconv_Atoi.calls t221 t225 none _ ?side1 A4.out).mono ?_);(case side1=>first|(with_reducible exact HG.out)|exact GV_below HG.out (puM HB.out GE219.out));rintro e w35 ⟨E_,hE_,rfl,hb⟩;obtain rfl:=hE_;refine ⟨_,rfl,?_⟩;have n0_:=m_ (blk_below (g:=gb219) (o:=.cells #[.int .i64 0,.int .i64 0] 43 (0,0)) (puB BK219.out) hb);have n1_:=m_ (l5_ (puM HB.out GE219.out) hb);revert n0_ n1_;clear BK219 HB;intro BK219 HB;(try clear hb);(try clear hb2);(try clear hk);(try clear hi);(try simp only [e1_,e2_]))|((with_reducible refine gate_dst (N:=11) rfl ?_);refine box_event ?hg (N:=11) ?hd (cs:=#[.int .i64 0,.int .i64 0]) (t:=43) ?hr ?_;(case hd=>rfl);(case hg=>rfl);(case hr=>first|(go_simp;done)|(go_simp;rfl));intro gb227 hg w36 hbox hb;have n0_:=m_ (blk_below (g:=gb219) (o:=.cells #[.int .i64 0,.int .i64 0] 43 (0,0)) (puB BK219.out) hb);have n1_:=m_ (l5_ (puM HB.out GE219.out) hb);have n2_:=m_ (hbox);have n3_:=m_ ((by rw [hg];exact (l6_ (puM HB.out GE219.out)) : w.heap.size ≤ gb227));have n4_:=n3_;have n5_:=m_ ((by rw [hg];exact Nat.ne_of_lt (blk_lt (g:=gb219) (o:=.cells #[.int .i64 0,.int .i64 0] 43 (0,0)) (puB BK219.out)) : gb219 ≠ gb227));have n6_:=m_ ((by rw [hg];exact Nat.ne_of_gt (blk_lt (g:=gb219) (o:=.cells #[.int .i64 0,.int .i64 0] 43 (0,0)) (puB BK219.out)) : gb227 ≠ gb219));revert n0_ n1_ n2_ n3_ n4_ n5_ n6_;clear BK219 HB;intro BK219 HB BK227 GW227 GE227 NB219_227 NB227_219;clear hb hbox hg;have hnb37:=NB227_219.out;have hnc37:=NB219_227.out;have hcz38_0 : w36.cell? ⟨gb227,0,none⟩ = some (.int .i64 0):=(c_ BK227.out 0).trans rfl;have hcz38_1 : w36.cell? ⟨gb227,1,none⟩ = some (.int .i64 0):=(c_ BK227.out 1).trans rfl;have hfz38_0:=f_ BK227.out 0;have hfz38_1:=f_ BK227.out 1)|(go_at_call 87;(with_reducible refine (impl_End_any.calls t223 t225 false _ A5.out).mono ?_);rintro e w39 ⟨rfl,hb⟩;have n0_:=m_ (blk_below (g:=gb219) (o:=.cells #[.int .i64 0,.int .i64 0] 43 (0,0)) (by (with_reducible repeat first|apply b1_|apply b2_|apply b3_);refine b4_ ?_ NB219_227.out _;(with_reducible repeat first|apply b1_|apply b2_|apply b3_);refine b4_ ?_ NB219_227.out _;(with_reducible repeat first|apply b1_|apply b2_|apply b3_);exact BK219.out) hb);have n1_:=m_ (blk_below (g:=gb227) (o:=.cells #[.int .i64 t223,.int .i64 t225] 43 (0,0)) (by (with_reducible repeat first|apply b1_|apply b2_|apply b3_);refine blk_put (cs:=#[.int .i64 t223,.int .i64 0]) ?_ 1 _ rfl;(with_reducible repeat first|apply b1_|apply b2_|apply b3_);refine blk_put (cs:=#[.int .i64 0,.int .i64 0]) ?_ 0 _ rfl;(with_reducible repeat first|apply b1_|apply b2_|apply b3_);exact BK227.out) hb);have n2_:=m_ (l5_ (puN HB.out GE219.out GE227.out) hb);revert n0_ n1_ n2_;clear BK219 BK227 HB;intro BK219 BK227 HB;(try clear hb);(try clear hb2);(try clear hk);(try clear hi);have hcz40_0 : w39.cell? ⟨gb219,0,none⟩ = some (.int .i64 0):=(c_ BK219.out 0).trans rfl;have hcz40_1 : w39.cell? ⟨gb219,1,none⟩ = some (.int .i64 0):=(c_ BK219.out 1).trans rfl;have hfz40_0:=f_ BK219.out 0;have hfz40_1:=f_ BK219.out 1))
    refine bodyPost_ret (results_ct rfl _ _ gb219 43 #[.int .i64 0,.int .i64 0] (0,0) _ rfl (by (with_reducible repeat first|apply b1_|apply b2_|apply b3_);refine blk_put (cs:=#[.int .i64 0,.int .i64 0]) ?_ 1 _ rfl;(with_reducible repeat first|apply b1_|apply b2_|apply b3_);refine blk_put (cs:=#[.int .i64 0,.int .i64 0]) ?_ 0 _ rfl;(with_reducible repeat first|apply b1_|apply b2_|apply b3_);exact BK219.out) Tryd.underlying43 rfl (by kernel_rfl)) rfl ?_
    exact ⟨eqs,puN HB.out GE219.out GE227.out⟩
  ·have H1 : (some (0,0,false)) = some (r1,r2,r3):=by rw [if_neg (show ¬ (some q229).isNone = true by simp)] at H;exact H
   clear H
   have H:=H1
   clear H1
   try simp only [e1_,e2_]
   simp only [Option.some.injEq,Prod.mk.injEq] at H
   obtain ⟨rfl,rfl,rfl⟩:=H
   go_enter Tryd.func75,Tryd.ntmps75
   go_wp2_with (first|((with_reducible refine gate_dst (N:=2) rfl ?_);refine box_event ?hg (N:=2) ?hd (cs:=#[.int .i64 0,.int .i64 0]) (t:=43) ?hr ?_;(case hd=>rfl);(case hg=>rfl);(case hr=>first|(go_simp;done)|(go_simp;rfl));intro gb219 hg w41 hbox hb;have n0_:=m_ (l5_ (puL HB.out) hb);have n1_:=m_ (hbox);have n2_:=m_ ((by rw [hg];exact (l6_ (puL HB.out)) : w.heap.size ≤ gb219));have n3_:=m_ ((by rw [hg];exact (l6_ (puL HB.out)) : w.heap.size ≤ gb219));revert n0_ n1_ n2_ n3_;clear HB;intro HB BK219 GW219 GE219;clear hb hbox hg)|((with_reducible refine gate_callee (f:=74) rfl ?_);refine goesL_ (some 14) rfl rfl Tryd.func74 (by kernel_rfl) rfl #[.string a0,.string (⟨#[58]⟩ : ByteArray)] rfl lens ?_;(with_reducible refine (strings_Cut.calls a0 (⟨#[58]⟩ : ByteArray) t220 t221 t222 _ A2.out).mono ?_);rintro e w42 ⟨rfl,hb⟩;refine ⟨_,rfl,?_⟩;have n0_:=m_ (blk_below (g:=gb219) (o:=.cells #[.int .i64 0,.int .i64 0] 43 (0,0)) (puB BK219.out) hb);have n1_:=m_ (l5_ (puM HB.out GE219.out) hb);revert n0_ n1_;clear BK219 HB;intro BK219 HB;(try clear hb);(try clear hb2);(try clear hk);(try clear hi))|((with_reducible refine gate_callee (f:=86) rfl ?_);refine goesL_ (some 20) rfl rfl Tryd.func86 (by kernel_rfl) rfl #[.string t220] rfl lens ?_;(with_reducible refine (strconv_Atoi.calls t220 t223 none _ ?side1 A3.out).mono ?_);(case side1=>first|(with_reducible exact HG.out)|exact GV_below HG.out (puM HB.out GE219.out));rintro e w43 ⟨E_,hE_,rfl,hb⟩;obtain rfl:=hE_;refine ⟨_,rfl,?_⟩;have n0_:=m_ (blk_below (g:=gb219) (o:=.cells #[.int .i64 0,.int .i64 0] 43 (0,0)) (puB BK219.out) hb);have n1_:=m_ (l5_ (puM HB.out GE219.out) hb);revert n0_ n1_;clear BK219 HB;intro BK219 HB;(try clear hb);(try clear hb2);(try clear hk);(try clear hi);(try simp only [e1_,e2_]))|((with_reducible refine gate_callee (f:=86) rfl ?_);refine goesL_ (some 25) rfl rfl Tryd.func86 (by kernel_rfl) rfl #[.string t221] rfl lens ?_;(with_reducible refine (strconv_Atoi.calls t221 t225 (some q229) _ ?side1 A4.out).mono ?_);(case side1=>first|(with_reducible exact HG.out)|exact GV_below HG.out (puM HB.out GE219.out));rintro e w44 ⟨E_,hE_,rfl,hb⟩;obtain ⟨te_,pe_,rfl⟩:=hE_;refine ⟨_,rfl,?_⟩;have n0_:=m_ (blk_below (g:=gb219) (o:=.cells #[.int .i64 0,.int .i64 0] 43 (0,0)) (puB BK219.out) hb);have n1_:=m_ (l5_ (puM HB.out GE219.out) hb);revert n0_ n1_;clear BK219 HB;intro BK219 HB;(try clear hb);(try clear hb2);(try clear hk);(try clear hi);(try simp only [e1_,e2_]))|((with_reducible refine gate_dst (N:=11) rfl ?_);refine box_event ?hg (N:=11) ?hd (cs:=#[.int .i64 0,.int .i64 0]) (t:=43) ?hr ?_;(case hd=>rfl);(case hg=>rfl);(case hr=>first|(go_simp;done)|(go_simp;rfl));intro gb227 hg w45 hbox hb;have n0_:=m_ (blk_below (g:=gb219) (o:=.cells #[.int .i64 0,.int .i64 0] 43 (0,0)) (puB BK219.out) hb);have n1_:=m_ (l5_ (puM HB.out GE219.out) hb);have n2_:=m_ (hbox);have n3_:=m_ ((by rw [hg];exact (l6_ (puM HB.out GE219.out)) : w.heap.size ≤ gb227));have n4_:=n3_;have n5_:=m_ ((by rw [hg];exact Nat.ne_of_lt (blk_lt (g:=gb219) (o:=.cells #[.int .i64 0,.int .i64 0] 43 (0,0)) (puB BK219.out)) : gb219 ≠ gb227));have n6_:=m_ n5_.out.symm;revert n0_ n1_ n2_ n3_ n4_ n5_ n6_;clear BK219 HB;intro BK219 HB BK227 GW227 GE227 NB219_227 NB227_219;clear hb hbox hg;have hnb46:=NB227_219.out;have hnc46:=NB219_227.out;have hcz47_0 : w45.cell? ⟨gb227,0,none⟩ = some (.int .i64 0):=(c_ BK227.out 0).trans rfl;have hcz47_1 : w45.cell? ⟨gb227,1,none⟩ = some (.int .i64 0):=(c_ BK227.out 1).trans rfl;have hfz47_0:=f_ BK227.out 0;have hfz47_1:=f_ BK227.out 1;have hcz48_0 : w45.cell? ⟨gb219,0,none⟩ = some (.int .i64 0):=(c_ BK219.out 0).trans rfl;have hcz48_1 : w45.cell? ⟨gb219,1,none⟩ = some (.int .i64 0):=(c_ BK219.out 1).trans rfl;have hfz48_0:=f_ BK219.out 0;have hfz48_1:=f_ BK219.out 1))
   refine bodyPost_ret (results_ct rfl _ _ gb219 43 #[.int .i64 0,.int .i64 0] (0,0) _ rfl (by (with_reducible repeat first|apply b1_|apply b2_|apply b3_);refine blk_put (cs:=#[.int .i64 0,.int .i64 0]) ?_ 1 _ rfl;(with_reducible repeat first|apply b1_|apply b2_|apply b3_);refine blk_put (cs:=#[.int .i64 0,.int .i64 0]) ?_ 0 _ rfl;(with_reducible repeat first|apply b1_|apply b2_|apply b3_);refine b4_ ?_ NB219_227.out _;(with_reducible repeat first|apply b1_|apply b2_|apply b3_);refine b4_ ?_ NB219_227.out _;(with_reducible repeat first|apply b1_|apply b2_|apply b3_);exact BK219.out) Tryd.underlying43 rfl (by kernel_rfl)) rfl ?_
   exact ⟨eqs,puN HB.out GE219.out GE227.out⟩
 ·have H1 : (some (0,0,false)) = some (r1,r2,r3):=by rw [if_neg (show ¬ (some q228).isNone = true by simp)] at H;exact H
  clear H
  have H:=H1
  clear H1
  try simp only [e1_,e2_]
  simp only [Option.some.injEq,Prod.mk.injEq] at H
  obtain ⟨rfl,rfl,rfl⟩:=H
  go_enter Tryd.func75,Tryd.ntmps75
  go_wp2_with (first|((with_reducible refine gate_dst (N:=2) rfl ?_);refine box_event ?hg (N:=2) ?hd (cs:=#[.int .i64 0,.int .i64 0]) (t:=43) ?hr ?_;(case hd=>rfl);(case hg=>rfl);(case hr=>first|(go_simp;done)|(go_simp;rfl));intro gb219 hg w49 hbox hb;have n0_:=m_ (l5_ (puL HB.out) hb);have n1_:=m_ (hbox);have n2_:=m_ ((by rw [hg];exact (l6_ (puL HB.out)) : w.heap.size ≤ gb219));have n3_:=m_ ((by rw [hg];exact (l6_ (puL HB.out)) : w.heap.size ≤ gb219));revert n0_ n1_ n2_ n3_;clear HB;intro HB BK219 GW219 GE219;clear hb hbox hg)|((with_reducible refine gate_callee (f:=74) rfl ?_);refine goesL_ (some 14) rfl rfl Tryd.func74 (by kernel_rfl) rfl #[.string a0,.string (⟨#[58]⟩ : ByteArray)] rfl lens ?_;(with_reducible refine (strings_Cut.calls a0 (⟨#[58]⟩ : ByteArray) t220 t221 t222 _ A2.out).mono ?_);rintro e w50 ⟨rfl,hb⟩;refine ⟨_,rfl,?_⟩;have n0_:=m_ (blk_below (g:=gb219) (o:=.cells #[.int .i64 0,.int .i64 0] 43 (0,0)) (puB BK219.out) hb);have n1_:=m_ (l5_ (puM HB.out GE219.out) hb);revert n0_ n1_;clear BK219 HB;intro BK219 HB;(try clear hb);(try clear hb2);(try clear hk);(try clear hi))|((with_reducible refine gate_callee (f:=86) rfl ?_);refine goesL_ (some 20) rfl rfl Tryd.func86 (by kernel_rfl) rfl #[.string t220] rfl lens ?_;(with_reducible refine (strconv_Atoi.calls t220 t223 (some q228) _ ?side1 A3.out).mono ?_);(case side1=>first|(with_reducible exact HG.out)|exact GV_below HG.out (puM HB.out GE219.out));rintro e w51 ⟨E_,hE_,rfl,hb⟩;obtain ⟨te_,pe_,rfl⟩:=hE_;refine ⟨_,rfl,?_⟩;have n0_:=m_ (blk_below (g:=gb219) (o:=.cells #[.int .i64 0,.int .i64 0] 43 (0,0)) (puB BK219.out) hb);have n1_:=m_ (l5_ (puM HB.out GE219.out) hb);revert n0_ n1_;clear BK219 HB;intro BK219 HB;(try clear hb);(try clear hb2);(try clear hk);(try clear hi);(try simp only [e1_,e2_]))|((with_reducible refine gate_callee (f:=86) rfl ?_);refine goesL_ (some 25) rfl rfl Tryd.func86 (by kernel_rfl) rfl #[.string t221] rfl lens ?_;(with_reducible refine (strconv_Atoi.calls t221 t225 t226 _ ?side1 A4.out).mono ?_);(case side1=>first|(with_reducible exact HG.out)|exact GV_below HG.out (puM HB.out GE219.out));rintro e w52 ⟨E_,hE_,rfl,hb⟩;clear hE_;refine ⟨_,rfl,?_⟩;have n0_:=m_ (blk_below (g:=gb219) (o:=.cells #[.int .i64 0,.int .i64 0] 43 (0,0)) (puB BK219.out) hb);have n1_:=m_ (l5_ (puM HB.out GE219.out) hb);revert n0_ n1_;clear BK219 HB;intro BK219 HB;(try clear hb);(try clear hb2);(try clear hk);(try clear hi);(try simp only [e1_,e2_]))|((with_reducible refine gate_dst (N:=11) rfl ?_);refine box_event ?hg (N:=11) ?hd (cs:=#[.int .i64 0,.int .i64 0]) (t:=43) ?hr ?_;(case hd=>rfl);(case hg=>rfl);(case hr=>first|(go_simp;done)|(go_simp;rfl));intro gb227 hg w53 hbox hb;have n0_:=m_ (blk_below (g:=gb219) (o:=.cells #[.int .i64 0,.int .i64 0] 43 (0,0)) (puB BK219.out) hb);have n1_:=m_ (l5_ (puM HB.out GE219.out) hb);have n2_:=m_ (hbox);have n3_:=m_ ((by rw [hg];exact (l6_ (puM HB.out GE219.out)) : w.heap.size ≤ gb227));have n4_:=n3_;have n5_:=m_ ((by rw [hg];exact Nat.ne_of_lt (blk_lt (g:=gb219) (o:=.cells #[.int .i64 0,.int .i64 0] 43 (0,0)) (puB BK219.out)) : gb219 ≠ gb227));have n6_:=m_ n5_.out.symm;revert n0_ n1_ n2_ n3_ n4_ n5_ n6_;clear BK219 HB;intro BK219 HB BK227 GW227 GE227 NB219_227 NB227_219;clear hb hbox hg;have hnb54:=NB227_219.out;have hnc54:=NB219_227.out;have hcz55_0 : w53.cell? ⟨gb227,0,none⟩ = some (.int .i64 0):=(c_ BK227.out 0).trans rfl;have hcz55_1 : w53.cell? ⟨gb227,1,none⟩ = some (.int .i64 0):=(c_ BK227.out 1).trans rfl;have hfz55_0:=f_ BK227.out 0;have hfz55_1:=f_ BK227.out 1;have hcz56_0 : w53.cell? ⟨gb219,0,none⟩ = some (.int .i64 0):=(c_ BK219.out 0).trans rfl;have hcz56_1 : w53.cell? ⟨gb219,1,none⟩ = some (.int .i64 0):=(c_ BK219.out 1).trans rfl;have hfz56_0:=f_ BK219.out 0;have hfz56_1:=f_ BK219.out 1))
  refine bodyPost_ret (results_ct rfl _ _ gb219 43 #[.int .i64 0,.int .i64 0] (0,0) _ rfl (by (with_reducible repeat first|apply b1_|apply b2_|apply b3_);refine blk_put (cs:=#[.int .i64 0,.int .i64 0]) ?_ 1 _ rfl;(with_reducible repeat first|apply b1_|apply b2_|apply b3_);refine blk_put (cs:=#[.int .i64 0,.int .i64 0]) ?_ 0 _ rfl;(with_reducible repeat first|apply b1_|apply b2_|apply b3_);refine b4_ ?_ NB219_227.out _;(with_reducible repeat first|apply b1_|apply b2_|apply b3_);refine b4_ ?_ NB219_227.out _;(with_reducible repeat first|apply b1_|apply b2_|apply b3_);exact BK219.out) Tryd.underlying43 rfl (by kernel_rfl)) rfl ?_
  exact ⟨eqs,puN HB.out GE219.out GE227.out⟩

end Go.Proofs.YtkcjmmhleepjeaaDoor.A
