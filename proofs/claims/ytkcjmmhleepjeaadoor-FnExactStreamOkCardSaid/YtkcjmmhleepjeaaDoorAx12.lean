-- Printed by myprint.py (wip/tools) out of the translation. Not trusted: Lean checks it.
import Derived.Test.YtkcjmmhleepjeaaDoorAx0
import Derived.Test.YtkcjmmhleepjeaaDoorAx5
import Derived.Test.YtkcjmmhleepjeaaDoorAx8
import Derived.Test.YtkcjmmhleepjeaaDoorAx9
import Derived.Test.YtkcjmmhleepjeaaDoorAx10
namespace Go.Proofs.YtkcjmmhleepjeaaDoor.A
open Go.RowKit Go.Proofs.YtkcjmmhleepjeaaDoorW.PrintWords Go.Proofs.YtkcjmmhleepjeaaDoorW.PrintLast Go.Proofs.YtkcjmmhleepjeaaDoorW.PrintMore
attribute [local go_sem] max2_int min2_int max_two min_two max_three min_three max_four min_four   -- for this text's walks alone
set_option linter.unusedVariables false
set_option linter.unusedSimpArgs false

/-! ### laws_FnExactStreamOk: function 3 -/
def laws_FnExactStreamOk.f (k : Nat) (a0_0 : ByteArray) (l0_1 : List (S62)) : Option (Bool) := (laws_szStream.f k a0_0 l0_1 1048576).bind fun t301 => (if t301 < 0 then (some true) else ((laws_toStream.f k a0_0 l0_1).bind fun bt302 => ((spec_StreamOk.f k bt302.1 bt302.2).bind fun t306 => ((laws_toStream.f k a0_0 l0_1).bind fun bt307 => ((impl_StreamOk.f k bt307.1 bt307.2).bind fun t312 => (if (t312 != t306) = true then (some false) else ((laws_toStream.f k a0_0 l0_1).bind fun bt313 => ((laws_eqStream.f k bt307.1 bt307.2 bt313.1 bt313.2).bind fun t317 => (if t317 = true then (some true) else (some false))))))))))
theorem laws_FnExactStreamOk.mono : ∀ a0 a1 k, LeO (laws_FnExactStreamOk.f k a0 a1) (laws_FnExactStreamOk.f (k + 1) a0 a1) := by
 intro a0 a1 k
 unfold laws_FnExactStreamOk.f
 repeat' first
   | (with_reducible exact impl_StreamOk.mono _ _ _)
   | (with_reducible exact laws_eqStream.mono _ _ _ _ _)
   | (with_reducible exact laws_szStream.mono _ _ _ _)
   | (with_reducible exact laws_toStream.mono _ _ _)
   | (with_reducible exact spec_StreamOk.mono _ _ _)
   | (with_reducible exact LeO.refl _)
   | (with_reducible exact LeO.none _)
   | (with_reducible refine LeO.ite ?_ ?_)
   | (with_reducible refine LeO.bind ?_ (fun _ => ?_))
   | exact impl_StreamOk.mono _ _ _
   | exact laws_eqStream.mono _ _ _ _ _
   | exact laws_szStream.mono _ _ _ _
   | exact laws_toStream.mono _ _ _
   | exact spec_StreamOk.mono _ _ _
   | exact LeO.none _
   | refine LeO.ite ?_ ?_
   | refine LeO.bind ?_ (fun _ => ?_)
set_option maxHeartbeats 8000000 in
set_option maxRecDepth 100000 in
theorem laws_FnExactStreamOk.calls (k : Nat) (a0_0 : ByteArray) (A0_1 : Option Addr) (c0_1 : Nat) (l0_1 : List (S62)) (r : Bool) (w : World) (hr0_1 : Kd.C k62 w A0_1 l0_1.length l0_1) (hc0_1 : l0_1.length ≤ c0_1) (hG : GV w) (h : laws_FnExactStreamOk.f k a0_0 l0_1 = some r) :
  Calls Tryd.prog 3 #[.agg #[.string a0_0,.slice A0_1 l0_1.length c0_1]] w fun e w'=>e = .returned (.bool r) ∧ Below w.heap.size w w':=by
 have hu24:=Tryd.underlying24
 have hu29:=Tryd.underlying29
 have HG:=m_ hG
 clear hG
 have HR0_1:=m_ hr0_1
 have HC0_1:=m_ hc0_1
 clear hr0_1 hc0_1
 have HB:=m_ (Below.refl w.heap.size w)
 have H : ((laws_szStream.f k a0_0 l0_1 1048576).bind fun t301=>(if t301 < 0 then (some true) else ((laws_toStream.f k a0_0 l0_1).bind fun bt302=>((spec_StreamOk.f k bt302.1 bt302.2).bind fun t306=>((laws_toStream.f k a0_0 l0_1).bind fun bt307=>((impl_StreamOk.f k bt307.1 bt307.2).bind fun t312=>(if (t312 != t306) = true then (some false) else ((laws_toStream.f k a0_0 l0_1).bind fun bt313=>((laws_eqStream.f k bt307.1 bt307.2 bt313.1 bt313.2).bind fun t317=>(if t317 = true then (some true) else (some false))))))))))) = some r:=h
 clear h
 replace H:=Option.bind_eq_some_iff.mp H
 obtain ⟨t301,A20,H⟩:=H
 replace H : (if t301 < 0 then (some true) else ((laws_toStream.f k a0_0 l0_1).bind fun bt302=>((spec_StreamOk.f k bt302.1 bt302.2).bind fun t306=>((laws_toStream.f k a0_0 l0_1).bind fun bt307=>((impl_StreamOk.f k bt307.1 bt307.2).bind fun t312=>(if (t312 != t306) = true then (some false) else ((laws_toStream.f k a0_0 l0_1).bind fun bt313=>((laws_eqStream.f k bt307.1 bt307.2 bt313.1 bt313.2).bind fun t317=>(if t317 = true then (some true) else (some false)))))))))) = some r:=H
 have A2:=m_ A20
 clear A20
 by_cases c3 : t301 < 0
 ·rw [if_pos c3] at H
  have c3b0 : decide (t301 < 0) = true:=decide_eq_true c3
  clear c3
  obtain rfl:=Option.some.inj H
  go_enter Tryd.func3,Tryd.ntmps3
  go_wp2_with (first|((with_reducible refine gate_dst (N:=1) rfl ?_);refine box_event ?hg (N:=1) ?hd (cs:=#[.string a0_0,.slice A0_1 l0_1.length c0_1]) (t:=24) ?hr ?_;(case hd=>rfl);(case hg=>rfl);(case hr=>first|(go_simp;done)|(go_simp;rfl));intro gb300 hg w4 hbox hb;have n0_:=m_ (l5_ (by repeat (first|(with_reducible first|exact HB.out|apply l1_|apply l2_|apply l3_)|exact HB.out)) hb);have n1_:=m_ (hbox);have n2_:=m_ ((by rw [hg];exact (l6_ (by repeat (first|(with_reducible first|exact HB.out|apply l1_|apply l2_|apply l3_)|exact HB.out))) : w.heap.size ≤ gb300));have n3_:=m_ ((by rw [hg];exact (l6_ (by repeat (first|(with_reducible first|exact HB.out|apply l1_|apply l2_|apply l3_)|exact HB.out))) : w.heap.size ≤ gb300));clear HB;have HB:=n0_;have BK300:=n1_;have GW300:=n2_;have GE300:=n3_;clear n0_ n1_ n2_ n3_;clear hb hbox hg;have hcz5_0 : w4.cell? ⟨gb300,0,none⟩ = some (.string a0_0):=(c_ BK300.out 0).trans rfl;have hcz5_1 : w4.cell? ⟨gb300,1,none⟩ = some (.slice A0_1 l0_1.length c0_1):=(c_ BK300.out 1).trans rfl;have hfz5_0:=f_ BK300.out 0;have hfz5_1:=f_ BK300.out 1)|((with_reducible refine gate_callee (f:=8) rfl ?_);refine goesL_ (some 9) rfl rfl Tryd.func8 (by kernel_rfl) rfl #[.agg #[.string a0_0,.slice A0_1 l0_1.length c0_1],.int .i64 1048576] rfl (by (try simp only [List.map_toArray,List.map_cons,List.map_nil]);first|done|rfl|(simp only [List.length_drop,List.length_take];rfl)) ?_;(with_reducible refine (laws_szStream.calls k a0_0 _ _ l0_1 1048576 t301 _ ?side1 ?side2 A2.out).mono ?_);(case side1=>repeat (first|exact (Kd.C_below HR0_1.out HB.out)|(with_reducible refine Kd.C_alloc ?_ _)|(with_reducible refine Kd.C_drewN ?_ _)|(with_reducible refine Kd.C_drew ?_)));(case side2=>exact HC0_1.out);rintro e w6 ⟨rfl,hb⟩;refine ⟨_,rfl,?_⟩;have n0_:=m_ (blk_below (g:=gb300) (o:=.cells #[.string a0_0,.slice A0_1 l0_1.length c0_1] 24 (0,0)) (by (with_reducible repeat first|apply b1_|apply b2_|apply b3_);exact BK300.out) hb);have n1_:=m_ (l5_ (by repeat (first|(with_reducible first|exact HB.out|apply l1_|apply l2_|apply l3_|refine l4_ ?_ GE300.out)|exact HB.out)) hb);clear BK300;clear HB;have BK300:=n0_;have HB:=n1_;clear n0_ n1_;(try clear hb);(try clear hb2);(try clear hk);(try clear hi)))
  go_ret
  exact ⟨by first|rfl|(simp [e1_,e2_] <;> rfl)|(simp [*,e1_,e2_] <;> rfl)|(simp [e1_,e2_,pk_empty1,pk_empty2];done)|(simp [*,e1_,e2_,pk_empty1,pk_empty2];done),by repeat (first|(with_reducible first|exact HB.out|apply l1_|apply l2_|apply l3_|refine l4_ ?_ GE300.out)|exact HB.out)⟩
 ·rw [if_neg c3] at H
  have c3b0 : decide (t301 < 0) = false:=decide_eq_false c3
  clear c3
  replace H:=Option.bind_eq_some_iff.mp H
  obtain ⟨⟨t302,t303⟩,A70,H⟩:=H
  replace H : ((spec_StreamOk.f k t302 t303).bind fun t306=>((laws_toStream.f k a0_0 l0_1).bind fun bt307=>((impl_StreamOk.f k bt307.1 bt307.2).bind fun t312=>(if (t312 != t306) = true then (some false) else ((laws_toStream.f k a0_0 l0_1).bind fun bt313=>((laws_eqStream.f k bt307.1 bt307.2 bt313.1 bt313.2).bind fun t317=>(if t317 = true then (some true) else (some false)))))))) = some r:=H
  have A7:=m_ A70
  clear A70
  replace H:=Option.bind_eq_some_iff.mp H
  obtain ⟨t306,A80,H⟩:=H
  replace H : ((laws_toStream.f k a0_0 l0_1).bind fun bt307=>((impl_StreamOk.f k bt307.1 bt307.2).bind fun t312=>(if (t312 != t306) = true then (some false) else ((laws_toStream.f k a0_0 l0_1).bind fun bt313=>((laws_eqStream.f k bt307.1 bt307.2 bt313.1 bt313.2).bind fun t317=>(if t317 = true then (some true) else (some false))))))) = some r:=H
  have A8:=m_ A80
  clear A80
  replace H:=Option.bind_eq_some_iff.mp H
  obtain ⟨⟨t307,t308⟩,A90,H⟩:=H
  replace H : ((impl_StreamOk.f k t307 t308).bind fun t312=>(if (t312 != t306) = true then (some false) else ((laws_toStream.f k a0_0 l0_1).bind fun bt313=>((laws_eqStream.f k t307 t308 bt313.1 bt313.2).bind fun t317=>(if t317 = true then (some true) else (some false)))))) = some r:=H
  have A9:=m_ A90
  clear A90
  replace H:=Option.bind_eq_some_iff.mp H
  obtain ⟨t312,A100,H⟩:=H
  replace H : (if (t312 != t306) = true then (some false) else ((laws_toStream.f k a0_0 l0_1).bind fun bt313=>((laws_eqStream.f k t307 t308 bt313.1 bt313.2).bind fun t317=>(if t317 = true then (some true) else (some false))))) = some r:=H
  have A10:=m_ A100
  clear A100
  by_cases c11 : (t312 != t306) = true
  ·rw [if_pos c11] at H
   have c11b0 : (t312 != t306) = true:=c11
   (try (have c11b1 : decide (t312 = t306) = false:=by simpa using c11))
   (try (have c11b2 : (t312 == t306) = false:=by simpa using c11))
   (try (have c11b3 : ¬ (t312 = t306):=by simpa using c11))
   clear c11
   obtain rfl:=Option.some.inj H
   go_enter Tryd.func3,Tryd.ntmps3
   go_wp2_with (first|((with_reducible refine gate_dst (N:=1) rfl ?_);refine box_event ?hg (N:=1) ?hd (cs:=#[.string a0_0,.slice A0_1 l0_1.length c0_1]) (t:=24) ?hr ?_;(case hd=>rfl);(case hg=>rfl);(case hr=>first|(go_simp;done)|(go_simp;rfl));intro gb300 hg w12 hbox hb;have n0_:=m_ (l5_ (by repeat (first|(with_reducible first|exact HB.out|apply l1_|apply l2_|apply l3_)|exact HB.out)) hb);have n1_:=m_ (hbox);have n2_:=m_ ((by rw [hg];exact (l6_ (by repeat (first|(with_reducible first|exact HB.out|apply l1_|apply l2_|apply l3_)|exact HB.out))) : w.heap.size ≤ gb300));have n3_:=m_ ((by rw [hg];exact (l6_ (by repeat (first|(with_reducible first|exact HB.out|apply l1_|apply l2_|apply l3_)|exact HB.out))) : w.heap.size ≤ gb300));clear HB;have HB:=n0_;have BK300:=n1_;have GW300:=n2_;have GE300:=n3_;clear n0_ n1_ n2_ n3_;clear hb hbox hg;have hcz13_0 : w12.cell? ⟨gb300,0,none⟩ = some (.string a0_0):=(c_ BK300.out 0).trans rfl;have hcz13_1 : w12.cell? ⟨gb300,1,none⟩ = some (.slice A0_1 l0_1.length c0_1):=(c_ BK300.out 1).trans rfl;have hfz13_0:=f_ BK300.out 0;have hfz13_1:=f_ BK300.out 1)|((with_reducible refine gate_callee (f:=8) rfl ?_);refine goesL_ (some 9) rfl rfl Tryd.func8 (by kernel_rfl) rfl #[.agg #[.string a0_0,.slice A0_1 l0_1.length c0_1],.int .i64 1048576] rfl (by (try simp only [List.map_toArray,List.map_cons,List.map_nil]);first|done|rfl|(simp only [List.length_drop,List.length_take];rfl)) ?_;(with_reducible refine (laws_szStream.calls k a0_0 _ _ l0_1 1048576 t301 _ ?side1 ?side2 A2.out).mono ?_);(case side1=>repeat (first|exact (Kd.C_below HR0_1.out HB.out)|(with_reducible refine Kd.C_alloc ?_ _)|(with_reducible refine Kd.C_drewN ?_ _)|(with_reducible refine Kd.C_drew ?_)));(case side2=>exact HC0_1.out);rintro e w14 ⟨rfl,hb⟩;refine ⟨_,rfl,?_⟩;have n0_:=m_ (blk_below (g:=gb300) (o:=.cells #[.string a0_0,.slice A0_1 l0_1.length c0_1] 24 (0,0)) (by (with_reducible repeat first|apply b1_|apply b2_|apply b3_);exact BK300.out) hb);have n1_:=m_ (l5_ (by repeat (first|(with_reducible first|exact HB.out|apply l1_|apply l2_|apply l3_|refine l4_ ?_ GE300.out)|exact HB.out)) hb);clear BK300;clear HB;have BK300:=n0_;have HB:=n1_;clear n0_ n1_;(try clear hb);(try clear hb2);(try clear hk);(try clear hi);have hcz15_0 : w14.cell? ⟨gb300,0,none⟩ = some (.string a0_0):=(c_ BK300.out 0).trans rfl;have hcz15_1 : w14.cell? ⟨gb300,1,none⟩ = some (.slice A0_1 l0_1.length c0_1):=(c_ BK300.out 1).trans rfl;have hfz15_0:=f_ BK300.out 0;have hfz15_1:=f_ BK300.out 1)|((with_reducible refine gate_callee (f:=10) rfl ?_);refine goesL_ (some 13) rfl rfl Tryd.func10 (by kernel_rfl) rfl #[.agg #[.string a0_0,.slice A0_1 l0_1.length c0_1]] rfl (by (try simp only [List.map_toArray,List.map_cons,List.map_nil]);first|done|rfl|(simp only [List.length_drop,List.length_take];rfl)) ?_;(with_reducible refine (laws_toStream.calls k a0_0 _ _ l0_1 t302 t303 _ ?side1 ?side2 A7.out).mono ?_);(case side1=>repeat (first|exact (Kd.C_below HR0_1.out HB.out)|(with_reducible refine Kd.C_alloc ?_ _)|(with_reducible refine Kd.C_drewN ?_ _)|(with_reducible refine Kd.C_drew ?_)));(case side2=>exact HC0_1.out);rintro e w16 ⟨v304,rfl,ho0,hb⟩;refine ⟨_,rfl,?_⟩;have n0_:=m_ (Kd.R_lower ho0 (l6_ (by repeat (first|(with_reducible first|exact HB.out|apply l1_|apply l2_|apply l3_|refine l4_ ?_ GE300.out)|exact HB.out))));have n1_:=m_ (blk_below (g:=gb300) (o:=.cells #[.string a0_0,.slice A0_1 l0_1.length c0_1] 24 (0,0)) (by (with_reducible repeat first|apply b1_|apply b2_|apply b3_);exact BK300.out) hb);have n2_:=m_ (l5_ (by repeat (first|(with_reducible first|exact HB.out|apply l1_|apply l2_|apply l3_|refine l4_ ?_ GE300.out)|exact HB.out)) hb);clear BK300;clear HB;have HO305:=n0_;have BK300:=n1_;have HB:=n2_;clear n0_ n1_ n2_;(try clear hb);(try clear hb2);(try clear hk);(try clear hi);(try clear ho0);obtain ⟨Ao17,co17,eo17⟩:=Kd.R_slice HO305.out;subst eo17)|((with_reducible refine gate_callee (f:=9) rfl ?_);refine goesL_ (some 14) rfl rfl Tryd.func9 (by kernel_rfl) rfl #[.agg #[.string t302,.slice Ao17 t303.length co17]] rfl (by (try simp only [List.map_toArray,List.map_cons,List.map_nil]);first|done|rfl|(simp only [List.length_drop,List.length_take];rfl)) ?_;(with_reducible refine (spec_StreamOk.calls k t302 _ _ t303 t306 _ ?side1 ?side2 A8.out).mono ?_);(case side1=>repeat (first|exact (Kd.R_reads' HO305.out).2.2|(with_reducible refine Kd.C_alloc ?_ _)|(with_reducible refine Kd.C_drewN ?_ _)|(with_reducible refine Kd.C_drew ?_)));(case side2=>exact (Kd.R_reads' HO305.out).2.1);rintro e w18 ⟨rfl,hb⟩;refine ⟨_,rfl,?_⟩;have n0_:=m_ (Kd.R_below (by (with_reducible repeat (first|apply Kd.R_alloc|apply Kd.R_drewN|apply Kd.R_drew));exact HO305.out) hb);have n1_:=m_ (blk_below (g:=gb300) (o:=.cells #[.string a0_0,.slice A0_1 l0_1.length c0_1] 24 (0,0)) (by (with_reducible repeat first|apply b1_|apply b2_|apply b3_);exact BK300.out) hb);have n2_:=m_ (l5_ (by repeat (first|(with_reducible first|exact HB.out|apply l1_|apply l2_|apply l3_|refine l4_ ?_ GE300.out)|exact HB.out)) hb);clear HO305;clear BK300;clear HB;have HO305:=n0_;have BK300:=n1_;have HB:=n2_;clear n0_ n1_ n2_;(try clear hb);(try clear hb2);(try clear hk);(try clear hi);have hcz19_0 : w18.cell? ⟨gb300,0,none⟩ = some (.string a0_0):=(c_ BK300.out 0).trans rfl;have hcz19_1 : w18.cell? ⟨gb300,1,none⟩ = some (.slice A0_1 l0_1.length c0_1):=(c_ BK300.out 1).trans rfl;have hfz19_0:=f_ BK300.out 0;have hfz19_1:=f_ BK300.out 1)|((with_reducible refine gate_callee (f:=10) rfl ?_);refine goesL_ (some 16) rfl rfl Tryd.func10 (by kernel_rfl) rfl #[.agg #[.string a0_0,.slice A0_1 l0_1.length c0_1]] rfl (by (try simp only [List.map_toArray,List.map_cons,List.map_nil]);first|done|rfl|(simp only [List.length_drop,List.length_take];rfl)) ?_;(with_reducible refine (laws_toStream.calls k a0_0 _ _ l0_1 t307 t308 _ ?side1 ?side2 A9.out).mono ?_);(case side1=>repeat (first|exact (Kd.C_below HR0_1.out HB.out)|(with_reducible refine Kd.C_alloc ?_ _)|(with_reducible refine Kd.C_drewN ?_ _)|(with_reducible refine Kd.C_drew ?_)));(case side2=>exact HC0_1.out);rintro e w20 ⟨v309,rfl,ho0,hb⟩;refine ⟨_,rfl,?_⟩;have n0_:=m_ (Kd.R_elder' (by (with_reducible repeat (first|apply Kd.R_alloc|apply Kd.R_drewN|apply Kd.R_drew));exact HO305.out) (Kd.R_base ho0) hb);have n1_:=m_ (Kd.R_lower (Kd.R_new' ho0 (Kd.R_lt (by (with_reducible repeat (first|apply Kd.R_alloc|apply Kd.R_drewN|apply Kd.R_drew));exact HO305.out))) (l6_ (by repeat (first|(with_reducible first|exact HB.out|apply l1_|apply l2_|apply l3_|refine l4_ ?_ GE300.out)|exact HB.out))));have n2_:=m_ (blk_below (g:=gb300) (o:=.cells #[.string a0_0,.slice A0_1 l0_1.length c0_1] 24 (0,0)) (by (with_reducible repeat first|apply b1_|apply b2_|apply b3_);exact BK300.out) hb);have n3_:=m_ (l5_ (by repeat (first|(with_reducible first|exact HB.out|apply l1_|apply l2_|apply l3_|refine l4_ ?_ GE300.out)|exact HB.out)) hb);clear HO305;clear BK300;clear HB;have HO305:=n0_;have HO310:=n1_;have BK300:=n2_;have HB:=n3_;clear n0_ n1_ n2_ n3_;(try clear hb);(try clear hb2);(try clear hk);(try clear hi);(try clear ho0))|((with_reducible refine gate_dst (N:=5) rfl ?_);refine box_event ?hg (N:=5) ?hd (cs:=#[.string (⟨#[]⟩ : ByteArray),.slice none 0 0]) (t:=29) ?hr ?_;(case hd=>rfl);(case hg=>rfl);(case hr=>first|(go_simp;done)|(go_simp;rfl));intro gb311 hg w21 hbox hb;have n0_:=m_ (Kd.R_below (by (with_reducible repeat (first|apply Kd.R_alloc|apply Kd.R_drewN|apply Kd.R_drew));exact HO305.out) hb);have n1_:=m_ (Kd.R_below (by (with_reducible repeat (first|apply Kd.R_alloc|apply Kd.R_drewN|apply Kd.R_drew));exact HO310.out) hb);have n2_:=m_ (blk_below (g:=gb300) (o:=.cells #[.string a0_0,.slice A0_1 l0_1.length c0_1] 24 (0,0)) (by (with_reducible repeat first|apply b1_|apply b2_|apply b3_);exact BK300.out) hb);have n3_:=m_ (l5_ (by repeat (first|(with_reducible first|exact HB.out|apply l1_|apply l2_|apply l3_|refine l4_ ?_ GE300.out)|exact HB.out)) hb);have n4_:=m_ (hbox);have n5_:=m_ ((by rw [hg];exact (l6_ (by repeat (first|(with_reducible first|exact HB.out|apply l1_|apply l2_|apply l3_|refine l4_ ?_ GE300.out)|exact HB.out))) : w.heap.size ≤ gb311));have n6_:=n5_;have n7_:=m_ ((by rw [hg];exact Nat.ne_of_lt (blk_lt (g:=gb300) (o:=.cells #[.string a0_0,.slice A0_1 l0_1.length c0_1] 24 (0,0)) (by (with_reducible repeat first|apply b1_|apply b2_|apply b3_);exact BK300.out)) : gb300 ≠ gb311));have n8_:=m_ ((by rw [hg];exact Nat.ne_of_gt (blk_lt (g:=gb300) (o:=.cells #[.string a0_0,.slice A0_1 l0_1.length c0_1] 24 (0,0)) (by (with_reducible repeat first|apply b1_|apply b2_|apply b3_);exact BK300.out)) : gb311 ≠ gb300));clear HO305;clear HO310;clear BK300;clear HB;have HO305:=n0_;have HO310:=n1_;have BK300:=n2_;have HB:=n3_;have BK311:=n4_;have GW311:=n5_;have GE311:=n6_;have NB300_311:=n7_;have NB311_300:=n8_;clear n0_ n1_ n2_ n3_ n4_ n5_ n6_ n7_ n8_;clear hb hbox hg;have hnb22:=NB311_300.out;have hnc22:=NB300_311.out;have hcz23_0 : w21.cell? ⟨gb311,0,none⟩ = some (.string (⟨#[]⟩ : ByteArray)):=(c_ BK311.out 0).trans rfl;have hcz23_1 : w21.cell? ⟨gb311,1,none⟩ = some (.slice none 0 0):=(c_ BK311.out 1).trans rfl;have hfz23_0:=f_ BK311.out 0;have hfz23_1:=f_ BK311.out 1;obtain ⟨Ao24,co24,eo24⟩:=Kd.R_slice HO310.out;subst eo24)|((with_reducible refine gate_callee (f:=11) rfl ?_);refine goesL_ (some 18) rfl rfl Tryd.func11 (by kernel_rfl) rfl #[.agg #[.string t307,.slice Ao24 t308.length co24]] rfl (by (try simp only [List.map_toArray,List.map_cons,List.map_nil]);first|done|rfl|(simp only [List.length_drop,List.length_take];rfl)) ?_;(with_reducible refine (impl_StreamOk.calls k t307 _ _ t308 t312 _ ?side1 ?side2 ?side3 A10.out).mono ?_);(case side1=>refine (Kd.R_reads' (e:=41) (base:=w.heap.size) (ok:=fun k_=>(True ∧ some k_ ≠ (.slice Ao17 t303.length co17 : Value).ownBlock)) (n:=t308.length) (c:=co24) ?_).2.2;exact (by (with_reducible repeat (first|apply Kd.R_alloc|apply Kd.R_drewN|apply Kd.R_drew));exact (Kd.R_mono (Kd.R_far (p:=⟨gb311,1,none⟩) (Kd.R_far (p:=⟨gb311,0,none⟩) (Kd.R_types HO310.out BK311.out (by decide)) (fun _ hk=>hk.2) (.string t307)) (fun _ hk=>hk.2) (.slice Ao24 t308.length co24)) (fun _ h_=>h_.1))));(case side2=>exact (Kd.R_reads' HO310.out).2.1);(case side3=>first|(with_reducible exact HG.out)|exact GV_below HG.out (by repeat (first|(with_reducible first|exact HB.out|apply l1_|apply l2_|apply l3_|refine l4_ ?_ GE300.out|refine l4_ ?_ GE311.out)|exact HB.out)));rintro e w25 ⟨rfl,hb⟩;refine ⟨_,rfl,?_⟩;have n0_:=m_ (Kd.R_below (by (with_reducible repeat (first|apply Kd.R_alloc|apply Kd.R_drewN|apply Kd.R_drew));exact (Kd.R_mono (Kd.R_far (p:=⟨gb311,1,none⟩) (Kd.R_far (p:=⟨gb311,0,none⟩) (Kd.R_types HO305.out BK311.out (by decide)) (fun _ hk=>hk.2) (.string t307)) (fun _ hk=>hk.2) (.slice Ao24 t308.length co24)) (fun _ h_=>h_.1))) hb);have n1_:=m_ (Kd.R_below (by (with_reducible repeat (first|apply Kd.R_alloc|apply Kd.R_drewN|apply Kd.R_drew));exact (Kd.R_mono (Kd.R_far (p:=⟨gb311,1,none⟩) (Kd.R_far (p:=⟨gb311,0,none⟩) (Kd.R_types HO310.out BK311.out (by decide)) (fun _ hk=>hk.2) (.string t307)) (fun _ hk=>hk.2) (.slice Ao24 t308.length co24)) (fun _ h_=>h_.1))) hb);have n2_:=m_ (blk_below (g:=gb300) (o:=.cells #[.string a0_0,.slice A0_1 l0_1.length c0_1] 24 (0,0)) (by (with_reducible repeat first|apply b1_|apply b2_|apply b3_);refine b4_ ?_ NB300_311.out _;(with_reducible repeat first|apply b1_|apply b2_|apply b3_);refine b4_ ?_ NB300_311.out _;(with_reducible repeat first|apply b1_|apply b2_|apply b3_);exact BK300.out) hb);have n3_:=m_ (blk_below (g:=gb311) (o:=.cells #[.string t307,.slice Ao24 t308.length co24] 29 (0,0)) (by (with_reducible repeat first|apply b1_|apply b2_|apply b3_);refine blk_put (cs:=#[.string t307,.slice none 0 0]) ?_ 1 _ rfl;(with_reducible repeat first|apply b1_|apply b2_|apply b3_);refine blk_put (cs:=#[.string (⟨#[]⟩ : ByteArray),.slice none 0 0]) ?_ 0 _ rfl;(with_reducible repeat first|apply b1_|apply b2_|apply b3_);exact BK311.out) hb);have n4_:=m_ (l5_ (by repeat (first|(with_reducible first|exact HB.out|apply l1_|apply l2_|apply l3_|refine l4_ ?_ GE300.out|refine l4_ ?_ GE311.out)|exact HB.out)) hb);clear HO305;clear HO310;clear BK300;clear BK311;clear HB;have HO305:=n0_;have HO310:=n1_;have BK300:=n2_;have BK311:=n3_;have HB:=n4_;clear n0_ n1_ n2_ n3_ n4_;(try clear hb);(try clear hb2);(try clear hk);(try clear hi)))
   go_ret
   exact ⟨by first|rfl|(simp [e1_,e2_] <;> rfl)|(simp [*,e1_,e2_] <;> rfl)|(simp [e1_,e2_,pk_empty1,pk_empty2];done)|(simp [*,e1_,e2_,pk_empty1,pk_empty2];done),by repeat (first|(with_reducible first|exact HB.out|apply l1_|apply l2_|apply l3_|refine l4_ ?_ GE300.out|refine l4_ ?_ GE311.out)|exact HB.out)⟩
  ·rw [if_neg c11] at H
   have c11b0 : (t312 != t306) = false:=by simpa using c11
   (try (have c11b1 : decide (t312 = t306) = true:=by simpa using c11))
   (try (have c11b2 : (t312 == t306) = true:=by simpa using c11))
   clear c11
   replace H:=Option.bind_eq_some_iff.mp H
   obtain ⟨⟨t313,t314⟩,A260,H⟩:=H
   replace H : ((laws_eqStream.f k t307 t308 t313 t314).bind fun t317=>(if t317 = true then (some true) else (some false))) = some r:=H
   have A26:=m_ A260
   clear A260
   replace H:=Option.bind_eq_some_iff.mp H
   obtain ⟨t317,A270,H⟩:=H
   replace H : (if t317 = true then (some true) else (some false)) = some r:=H
   have A27:=m_ A270
   clear A270
   by_cases c28 : t317 = true
   ·subst c28
    have H1 : (some true) = some r:=by rw [if_pos rfl] at H;exact H
    clear H
    have H:=H1
    clear H1
    obtain rfl:=Option.some.inj H
    go_enter Tryd.func3,Tryd.ntmps3
    try go_wp2_with (first|((with_reducible refine gate_dst (N:=1) rfl ?_);refine box_event ?hg (N:=1) ?hd (cs:=#[.string a0_0,.slice A0_1 l0_1.length c0_1]) (t:=24) ?hr ?_;(case hd=>rfl);(case hg=>rfl);(case hr=>first|(go_simp;done)|(go_simp;rfl));intro gb300 hg w29 hbox hb;have n0_:=m_ (l5_ (by repeat (first|(with_reducible first|exact HB.out|apply l1_|apply l2_|apply l3_)|exact HB.out)) hb);have n1_:=m_ (hbox);have n2_:=m_ ((by rw [hg];exact (l6_ (by repeat (first|(with_reducible first|exact HB.out|apply l1_|apply l2_|apply l3_)|exact HB.out))) : w.heap.size ≤ gb300));have n3_:=m_ ((by rw [hg];exact (l6_ (by repeat (first|(with_reducible first|exact HB.out|apply l1_|apply l2_|apply l3_)|exact HB.out))) : w.heap.size ≤ gb300));clear HB;have HB:=n0_;have BK300:=n1_;have GW300:=n2_;have GE300:=n3_;clear n0_ n1_ n2_ n3_;clear hb hbox hg;have hcz30_0 : w29.cell? ⟨gb300,0,none⟩ = some (.string a0_0):=(c_ BK300.out 0).trans rfl;have hcz30_1 : w29.cell? ⟨gb300,1,none⟩ = some (.slice A0_1 l0_1.length c0_1):=(c_ BK300.out 1).trans rfl;have hfz30_0:=f_ BK300.out 0;have hfz30_1:=f_ BK300.out 1)|((with_reducible refine gate_callee (f:=8) rfl ?_);refine goesL_ (some 9) rfl rfl Tryd.func8 (by kernel_rfl) rfl #[.agg #[.string a0_0,.slice A0_1 l0_1.length c0_1],.int .i64 1048576] rfl (by (try simp only [List.map_toArray,List.map_cons,List.map_nil]);first|done|rfl|(simp only [List.length_drop,List.length_take];rfl)) ?_;(with_reducible refine (laws_szStream.calls k a0_0 _ _ l0_1 1048576 t301 _ ?side1 ?side2 A2.out).mono ?_);(case side1=>repeat (first|exact (Kd.C_below HR0_1.out HB.out)|(with_reducible refine Kd.C_alloc ?_ _)|(with_reducible refine Kd.C_drewN ?_ _)|(with_reducible refine Kd.C_drew ?_)));(case side2=>exact HC0_1.out);rintro e w31 ⟨rfl,hb⟩;refine ⟨_,rfl,?_⟩;have n0_:=m_ (blk_below (g:=gb300) (o:=.cells #[.string a0_0,.slice A0_1 l0_1.length c0_1] 24 (0,0)) (by (with_reducible repeat first|apply b1_|apply b2_|apply b3_);exact BK300.out) hb);have n1_:=m_ (l5_ (by repeat (first|(with_reducible first|exact HB.out|apply l1_|apply l2_|apply l3_|refine l4_ ?_ GE300.out)|exact HB.out)) hb);clear BK300;clear HB;have BK300:=n0_;have HB:=n1_;clear n0_ n1_;(try clear hb);(try clear hb2);(try clear hk);(try clear hi);have hcz32_0 : w31.cell? ⟨gb300,0,none⟩ = some (.string a0_0):=(c_ BK300.out 0).trans rfl;have hcz32_1 : w31.cell? ⟨gb300,1,none⟩ = some (.slice A0_1 l0_1.length c0_1):=(c_ BK300.out 1).trans rfl;have hfz32_0:=f_ BK300.out 0;have hfz32_1:=f_ BK300.out 1)|((with_reducible refine gate_callee (f:=10) rfl ?_);refine goesL_ (some 13) rfl rfl Tryd.func10 (by kernel_rfl) rfl #[.agg #[.string a0_0,.slice A0_1 l0_1.length c0_1]] rfl (by (try simp only [List.map_toArray,List.map_cons,List.map_nil]);first|done|rfl|(simp only [List.length_drop,List.length_take];rfl)) ?_;(with_reducible refine (laws_toStream.calls k a0_0 _ _ l0_1 t302 t303 _ ?side1 ?side2 A7.out).mono ?_);(case side1=>repeat (first|exact (Kd.C_below HR0_1.out HB.out)|(with_reducible refine Kd.C_alloc ?_ _)|(with_reducible refine Kd.C_drewN ?_ _)|(with_reducible refine Kd.C_drew ?_)));(case side2=>exact HC0_1.out);rintro e w33 ⟨v304,rfl,ho0,hb⟩;refine ⟨_,rfl,?_⟩;have n0_:=m_ (Kd.R_lower ho0 (l6_ (by repeat (first|(with_reducible first|exact HB.out|apply l1_|apply l2_|apply l3_|refine l4_ ?_ GE300.out)|exact HB.out))));have n1_:=m_ (blk_below (g:=gb300) (o:=.cells #[.string a0_0,.slice A0_1 l0_1.length c0_1] 24 (0,0)) (by (with_reducible repeat first|apply b1_|apply b2_|apply b3_);exact BK300.out) hb);have n2_:=m_ (l5_ (by repeat (first|(with_reducible first|exact HB.out|apply l1_|apply l2_|apply l3_|refine l4_ ?_ GE300.out)|exact HB.out)) hb);clear BK300;clear HB;have HO305:=n0_;have BK300:=n1_;have HB:=n2_;clear n0_ n1_ n2_;(try clear hb);(try clear hb2);(try clear hk);(try clear hi);(try clear ho0);obtain ⟨Ao34,co34,eo34⟩:=Kd.R_slice HO305.out;subst eo34)|((with_reducible refine gate_callee (f:=9) rfl ?_);refine goesL_ (some 14) rfl rfl Tryd.func9 (by kernel_rfl) rfl #[.agg #[.string t302,.slice Ao34 t303.length co34]] rfl (by (try simp only [List.map_toArray,List.map_cons,List.map_nil]);first|done|rfl|(simp only [List.length_drop,List.length_take];rfl)) ?_;(with_reducible refine (spec_StreamOk.calls k t302 _ _ t303 t306 _ ?side1 ?side2 A8.out).mono ?_);(case side1=>repeat (first|exact (Kd.R_reads' HO305.out).2.2|(with_reducible refine Kd.C_alloc ?_ _)|(with_reducible refine Kd.C_drewN ?_ _)|(with_reducible refine Kd.C_drew ?_)));(case side2=>exact (Kd.R_reads' HO305.out).2.1);rintro e w35 ⟨rfl,hb⟩;refine ⟨_,rfl,?_⟩;have n0_:=m_ (Kd.R_below (by (with_reducible repeat (first|apply Kd.R_alloc|apply Kd.R_drewN|apply Kd.R_drew));exact HO305.out) hb);have n1_:=m_ (blk_below (g:=gb300) (o:=.cells #[.string a0_0,.slice A0_1 l0_1.length c0_1] 24 (0,0)) (by (with_reducible repeat first|apply b1_|apply b2_|apply b3_);exact BK300.out) hb);have n2_:=m_ (l5_ (by repeat (first|(with_reducible first|exact HB.out|apply l1_|apply l2_|apply l3_|refine l4_ ?_ GE300.out)|exact HB.out)) hb);clear HO305;clear BK300;clear HB;have HO305:=n0_;have BK300:=n1_;have HB:=n2_;clear n0_ n1_ n2_;(try clear hb);(try clear hb2);(try clear hk);(try clear hi);have hcz36_0 : w35.cell? ⟨gb300,0,none⟩ = some (.string a0_0):=(c_ BK300.out 0).trans rfl;have hcz36_1 : w35.cell? ⟨gb300,1,none⟩ = some (.slice A0_1 l0_1.length c0_1):=(c_ BK300.out 1).trans rfl;have hfz36_0:=f_ BK300.out 0;have hfz36_1:=f_ BK300.out 1)|((with_reducible refine gate_callee (f:=10) rfl ?_);refine goesL_ (some 16) rfl rfl Tryd.func10 (by kernel_rfl) rfl #[.agg #[.string a0_0,.slice A0_1 l0_1.length c0_1]] rfl (by (try simp only [List.map_toArray,List.map_cons,List.map_nil]);first|done|rfl|(simp only [List.length_drop,List.length_take];rfl)) ?_;(with_reducible refine (laws_toStream.calls k a0_0 _ _ l0_1 t307 t308 _ ?side1 ?side2 A9.out).mono ?_);(case side1=>repeat (first|exact (Kd.C_below HR0_1.out HB.out)|(with_reducible refine Kd.C_alloc ?_ _)|(with_reducible refine Kd.C_drewN ?_ _)|(with_reducible refine Kd.C_drew ?_)));(case side2=>exact HC0_1.out);rintro e w37 ⟨v309,rfl,ho0,hb⟩;refine ⟨_,rfl,?_⟩;have n0_:=m_ (Kd.R_elder' (by (with_reducible repeat (first|apply Kd.R_alloc|apply Kd.R_drewN|apply Kd.R_drew));exact HO305.out) (Kd.R_base ho0) hb);have n1_:=m_ (Kd.R_lower (Kd.R_new' ho0 (Kd.R_lt (by (with_reducible repeat (first|apply Kd.R_alloc|apply Kd.R_drewN|apply Kd.R_drew));exact HO305.out))) (l6_ (by repeat (first|(with_reducible first|exact HB.out|apply l1_|apply l2_|apply l3_|refine l4_ ?_ GE300.out)|exact HB.out))));have n2_:=m_ (blk_below (g:=gb300) (o:=.cells #[.string a0_0,.slice A0_1 l0_1.length c0_1] 24 (0,0)) (by (with_reducible repeat first|apply b1_|apply b2_|apply b3_);exact BK300.out) hb);have n3_:=m_ (l5_ (by repeat (first|(with_reducible first|exact HB.out|apply l1_|apply l2_|apply l3_|refine l4_ ?_ GE300.out)|exact HB.out)) hb);clear HO305;clear BK300;clear HB;have HO305:=n0_;have HO310:=n1_;have BK300:=n2_;have HB:=n3_;clear n0_ n1_ n2_ n3_;(try clear hb);(try clear hb2);(try clear hk);(try clear hi);(try clear ho0))|((with_reducible refine gate_dst (N:=5) rfl ?_);refine box_event ?hg (N:=5) ?hd (cs:=#[.string (⟨#[]⟩ : ByteArray),.slice none 0 0]) (t:=29) ?hr ?_;(case hd=>rfl);(case hg=>rfl);(case hr=>first|(go_simp;done)|(go_simp;rfl));intro gb311 hg w38 hbox hb;have n0_:=m_ (Kd.R_below (by (with_reducible repeat (first|apply Kd.R_alloc|apply Kd.R_drewN|apply Kd.R_drew));exact HO305.out) hb);have n1_:=m_ (Kd.R_below (by (with_reducible repeat (first|apply Kd.R_alloc|apply Kd.R_drewN|apply Kd.R_drew));exact HO310.out) hb);have n2_:=m_ (blk_below (g:=gb300) (o:=.cells #[.string a0_0,.slice A0_1 l0_1.length c0_1] 24 (0,0)) (by (with_reducible repeat first|apply b1_|apply b2_|apply b3_);exact BK300.out) hb);have n3_:=m_ (l5_ (by repeat (first|(with_reducible first|exact HB.out|apply l1_|apply l2_|apply l3_|refine l4_ ?_ GE300.out)|exact HB.out)) hb);have n4_:=m_ (hbox);have n5_:=m_ ((by rw [hg];exact (l6_ (by repeat (first|(with_reducible first|exact HB.out|apply l1_|apply l2_|apply l3_|refine l4_ ?_ GE300.out)|exact HB.out))) : w.heap.size ≤ gb311));have n6_:=n5_;have n7_:=m_ ((by rw [hg];exact Nat.ne_of_lt (blk_lt (g:=gb300) (o:=.cells #[.string a0_0,.slice A0_1 l0_1.length c0_1] 24 (0,0)) (by (with_reducible repeat first|apply b1_|apply b2_|apply b3_);exact BK300.out)) : gb300 ≠ gb311));have n8_:=m_ ((by rw [hg];exact Nat.ne_of_gt (blk_lt (g:=gb300) (o:=.cells #[.string a0_0,.slice A0_1 l0_1.length c0_1] 24 (0,0)) (by (with_reducible repeat first|apply b1_|apply b2_|apply b3_);exact BK300.out)) : gb311 ≠ gb300));clear HO305;clear HO310;clear BK300;clear HB;have HO305:=n0_;have HO310:=n1_;have BK300:=n2_;have HB:=n3_;have BK311:=n4_;have GW311:=n5_;have GE311:=n6_;have NB300_311:=n7_;have NB311_300:=n8_;clear n0_ n1_ n2_ n3_ n4_ n5_ n6_ n7_ n8_;clear hb hbox hg;have hnb39:=NB311_300.out;have hnc39:=NB300_311.out;have hcz40_0 : w38.cell? ⟨gb311,0,none⟩ = some (.string (⟨#[]⟩ : ByteArray)):=(c_ BK311.out 0).trans rfl;have hcz40_1 : w38.cell? ⟨gb311,1,none⟩ = some (.slice none 0 0):=(c_ BK311.out 1).trans rfl;have hfz40_0:=f_ BK311.out 0;have hfz40_1:=f_ BK311.out 1;obtain ⟨Ao41,co41,eo41⟩:=Kd.R_slice HO310.out;subst eo41)|((with_reducible refine gate_callee (f:=11) rfl ?_);refine goesL_ (some 18) rfl rfl Tryd.func11 (by kernel_rfl) rfl #[.agg #[.string t307,.slice Ao41 t308.length co41]] rfl (by (try simp only [List.map_toArray,List.map_cons,List.map_nil]);first|done|rfl|(simp only [List.length_drop,List.length_take];rfl)) ?_;(with_reducible refine (impl_StreamOk.calls k t307 _ _ t308 t312 _ ?side1 ?side2 ?side3 A10.out).mono ?_);(case side1=>refine (Kd.R_reads' (e:=41) (base:=w.heap.size) (ok:=fun k_=>(True ∧ some k_ ≠ (.slice Ao34 t303.length co34 : Value).ownBlock)) (n:=t308.length) (c:=co41) ?_).2.2;exact (by (with_reducible repeat (first|apply Kd.R_alloc|apply Kd.R_drewN|apply Kd.R_drew));exact (Kd.R_mono (Kd.R_far (p:=⟨gb311,1,none⟩) (Kd.R_far (p:=⟨gb311,0,none⟩) (Kd.R_types HO310.out BK311.out (by decide)) (fun _ hk=>hk.2) (.string t307)) (fun _ hk=>hk.2) (.slice Ao41 t308.length co41)) (fun _ h_=>h_.1))));(case side2=>exact (Kd.R_reads' HO310.out).2.1);(case side3=>first|(with_reducible exact HG.out)|exact GV_below HG.out (by repeat (first|(with_reducible first|exact HB.out|apply l1_|apply l2_|apply l3_|refine l4_ ?_ GE300.out|refine l4_ ?_ GE311.out)|exact HB.out)));rintro e w42 ⟨rfl,hb⟩;refine ⟨_,rfl,?_⟩;have n0_:=m_ (Kd.R_below (by (with_reducible repeat (first|apply Kd.R_alloc|apply Kd.R_drewN|apply Kd.R_drew));exact (Kd.R_mono (Kd.R_far (p:=⟨gb311,1,none⟩) (Kd.R_far (p:=⟨gb311,0,none⟩) (Kd.R_types HO305.out BK311.out (by decide)) (fun _ hk=>hk.2) (.string t307)) (fun _ hk=>hk.2) (.slice Ao41 t308.length co41)) (fun _ h_=>h_.1))) hb);have n1_:=m_ (Kd.R_below (by (with_reducible repeat (first|apply Kd.R_alloc|apply Kd.R_drewN|apply Kd.R_drew));exact (Kd.R_mono (Kd.R_far (p:=⟨gb311,1,none⟩) (Kd.R_far (p:=⟨gb311,0,none⟩) (Kd.R_types HO310.out BK311.out (by decide)) (fun _ hk=>hk.2) (.string t307)) (fun _ hk=>hk.2) (.slice Ao41 t308.length co41)) (fun _ h_=>h_.1))) hb);have n2_:=m_ (blk_below (g:=gb300) (o:=.cells #[.string a0_0,.slice A0_1 l0_1.length c0_1] 24 (0,0)) (by (with_reducible repeat first|apply b1_|apply b2_|apply b3_);refine b4_ ?_ NB300_311.out _;(with_reducible repeat first|apply b1_|apply b2_|apply b3_);refine b4_ ?_ NB300_311.out _;(with_reducible repeat first|apply b1_|apply b2_|apply b3_);exact BK300.out) hb);have n3_:=m_ (blk_below (g:=gb311) (o:=.cells #[.string t307,.slice Ao41 t308.length co41] 29 (0,0)) (by (with_reducible repeat first|apply b1_|apply b2_|apply b3_);refine blk_put (cs:=#[.string t307,.slice none 0 0]) ?_ 1 _ rfl;(with_reducible repeat first|apply b1_|apply b2_|apply b3_);refine blk_put (cs:=#[.string (⟨#[]⟩ : ByteArray),.slice none 0 0]) ?_ 0 _ rfl;(with_reducible repeat first|apply b1_|apply b2_|apply b3_);exact BK311.out) hb);have n4_:=m_ (l5_ (by repeat (first|(with_reducible first|exact HB.out|apply l1_|apply l2_|apply l3_|refine l4_ ?_ GE300.out|refine l4_ ?_ GE311.out)|exact HB.out)) hb);clear HO305;clear HO310;clear BK300;clear BK311;clear HB;have HO305:=n0_;have HO310:=n1_;have BK300:=n2_;have BK311:=n3_;have HB:=n4_;clear n0_ n1_ n2_ n3_ n4_;(try clear hb);(try clear hb2);(try clear hk);(try clear hi)))
    have n0_:=m_ (Kd.R_drew HO305.out)
    have n1_:=m_ (Kd.R_drew HO310.out)
    have n2_:=m_ (b2_ BK300.out)
    have n3_:=m_ (b2_ BK311.out)
    have n4_:=m_ (l3_ HB.out)
    clear HO305
    clear HO310
    clear BK300
    clear BK311
    clear HB
    have HO305:=n0_
    have HO310:=n1_
    have BK300:=n2_
    have BK311:=n3_
    have HB:=n4_
    clear n0_ n1_ n2_ n3_ n4_
    refine start_ (n:=5) (S:=fun w'=>w'.cell? ⟨gb311,0,none⟩ = some (.string t307) ∧ w'.cell? ⟨gb311,1,none⟩ = some (.slice Ao41 t308.length co41) ∧ w'.cell? ⟨gb300,0,none⟩ = some (.string a0_0) ∧ w'.cell? ⟨gb300,1,none⟩ = some (.slice A0_1 l0_1.length c0_1)) (ds:=[]) #[false,false,false,false,false] (by kernel_rfl) rfl rfl ⟨(c_ BK311.out 0).trans rfl,(c_ BK311.out 1).trans rfl,(c_ BK300.out 0).trans rfl,(c_ BK300.out 1).trans rfl⟩ (fun hHeld=>?_)
    generalize w42.drew = w43 at HO305 HO310 BK300 BK311 HB hHeld ⊢
    refine take_ (i:=0) (N:=some 22) (v:=?_) (a':=?_) #[true,false,false,false,false] rfl rfl (by kernel_rfl) (fun _ _ _ h=>h) (Or.inl ⟨by rfl,?_⟩) hHeld ?_ ?_
    rotate_left
    ·rintro w' ⟨s0,s1,s2,s3⟩
     go_simp
     with_reducible rfl
    rotate_left
    ·simp only [Act.put,s1_,s2_,s3_,i64_w,i32_w]
     rfl
    refine take_ (i:=1) (N:=some 23) (v:=?_) (a':=?_) #[true,true,false,false,false] rfl rfl (by kernel_rfl) (fun _ _ _ h=>h) (Or.inl ⟨by rfl,?_⟩) hHeld ?_ ?_
    rotate_left
    ·rintro w' ⟨s0,s1,s2,s3⟩
     go_simp
     with_reducible rfl
    rotate_left
    ·simp only [Act.put,s1_,s2_,s3_,i64_w,i32_w]
     rfl
    refine one_ (i:=2) (N:=some 24) #[true,true,true,false,false] rfl rfl (by kernel_rfl) (by decide) (fun K hK=>?_)
    refine goes_ Tryd.func10 (by kernel_rfl) rfl #[.agg #[.string a0_0,.slice A0_1 l0_1.length c0_1]] (by rfl) rfl rfl (by (try simp only [List.map_toArray,List.map_cons,List.map_nil]);first|done|rfl|(simp only [List.length_drop,List.length_take];rfl)) ?_
    with_reducible refine (laws_toStream.calls k a0_0 _ _ l0_1 t313 t314 _ ?side1 ?side2 A26.out).mono ?_
    (case side1=>repeat (first|exact (Kd.C_below HR0_1.out HB.out)|(with_reducible refine Kd.C_alloc ?_ _)|(with_reducible refine Kd.C_drewN ?_ _)|(with_reducible refine Kd.C_drew ?_)))
    (case side2=>exact HC0_1.out)
    rintro e w44 ⟨v315,rfl,ho0,hb⟩
    refine ⟨_,rfl,?_⟩
    have n0_:=m_ (Kd.R_elder' (by (with_reducible repeat (first|apply Kd.R_alloc|apply Kd.R_drewN|apply Kd.R_drew));exact HO305.out) (Kd.R_base ho0) hb)
    have n1_:=m_ (Kd.R_elder' (by (with_reducible repeat (first|apply Kd.R_alloc|apply Kd.R_drewN|apply Kd.R_drew));exact HO310.out) (Kd.R_base ho0) hb)
    have n2_:=m_ (Kd.R_lower (Kd.R_new' (Kd.R_new' ho0 (Kd.R_lt (by (with_reducible repeat (first|apply Kd.R_alloc|apply Kd.R_drewN|apply Kd.R_drew));exact HO305.out))) (Kd.R_lt (by (with_reducible repeat (first|apply Kd.R_alloc|apply Kd.R_drewN|apply Kd.R_drew));exact HO310.out))) (l6_ (by repeat (first|(with_reducible first|exact HB.out|apply l1_|apply l2_|apply l3_|refine l4_ ?_ GE300.out|refine l4_ ?_ GE311.out)|exact HB.out))))
    have n3_:=m_ (blk_below (g:=gb300) (o:=.cells #[.string a0_0,.slice A0_1 l0_1.length c0_1] 24 (0,0)) (by (with_reducible repeat first|apply b1_|apply b2_|apply b3_);exact BK300.out) hb)
    have n4_:=m_ (blk_below (g:=gb311) (o:=.cells #[.string t307,.slice Ao41 t308.length co41] 29 (0,0)) (by (with_reducible repeat first|apply b1_|apply b2_|apply b3_);exact BK311.out) hb)
    have n5_:=m_ (l5_ (by repeat (first|(with_reducible first|exact HB.out|apply l1_|apply l2_|apply l3_|refine l4_ ?_ GE300.out|refine l4_ ?_ GE311.out)|exact HB.out)) hb)
    clear HO305
    clear HO310
    clear BK300
    clear BK311
    clear HB
    have HO305:=n0_
    have HO310:=n1_
    have HO316:=n2_
    have BK300:=n3_
    have BK311:=n4_
    have HB:=n5_
    clear n0_ n1_ n2_ n3_ n4_ n5_
    (try clear hb)
    (try clear hb2)
    (try clear hk)
    (try clear hi)
    (try clear ho0)
    obtain ⟨Ao45,co45,eo45⟩:=Kd.R_slice HO316.out
    (first|subst eo45|(injection eo45 with f1_ f2_ f3_;have f4_:=f1_.symm;have f5_:=f3_.symm;clear f1_ f2_ f3_;subst f4_;subst f5_))
    refine hK.out _ _ ⟨(c_ BK311.out 0).trans rfl,(c_ BK311.out 1).trans rfl,(c_ BK300.out 0).trans rfl,(c_ BK300.out 1).trans rfl⟩ (fun hHeld=>?_)
    clear hK K
    refine norm_ (a':=?_) ?_ ?_
    rotate_left
    ·show Act.put _ (some 24) _ = _
     simp only [Act.put,s1_,s2_,s3_,i64_w,i32_w]
     rfl
    refine one_ (i:=3) (N:=some 25) #[true,true,true,true,false] rfl rfl (by kernel_rfl) (by decide) (fun K hK=>?_)
    refine goes_ Tryd.func12 (by kernel_rfl) rfl #[.agg #[.string t307,.slice Ao41 t308.length co41],.agg #[.string t313,.slice Ao45 t314.length co45]] (by rfl) rfl rfl (by (try simp only [List.map_toArray,List.map_cons,List.map_nil]);first|done|rfl|(simp only [List.length_drop,List.length_take];rfl)) ?_
    with_reducible refine (laws_eqStream.calls k t307 _ _ t308 t313 _ _ t314 true _ ?side1 ?side2 ?side3 ?side4 A27.out).mono ?_
    (case side1=>repeat (first|exact (Kd.R_reads' HO310.out).2.2|(with_reducible refine Kd.C_alloc ?_ _)|(with_reducible refine Kd.C_drewN ?_ _)|(with_reducible refine Kd.C_drew ?_)))
    (case side2=>exact (Kd.R_reads' HO310.out).2.1)
    (case side3=>repeat (first|exact (Kd.R_reads' HO316.out).2.2|(with_reducible refine Kd.C_alloc ?_ _)|(with_reducible refine Kd.C_drewN ?_ _)|(with_reducible refine Kd.C_drew ?_)))
    (case side4=>exact (Kd.R_reads' HO316.out).2.1)
    rintro e w46 ⟨rfl,hb⟩
    refine ⟨_,rfl,?_⟩
    have n0_:=m_ (Kd.R_below (by (with_reducible repeat (first|apply Kd.R_alloc|apply Kd.R_drewN|apply Kd.R_drew));exact HO305.out) hb)
    have n1_:=m_ (Kd.R_below (by (with_reducible repeat (first|apply Kd.R_alloc|apply Kd.R_drewN|apply Kd.R_drew));exact HO310.out) hb)
    have n2_:=m_ (Kd.R_below (by (with_reducible repeat (first|apply Kd.R_alloc|apply Kd.R_drewN|apply Kd.R_drew));exact HO316.out) hb)
    have n3_:=m_ (blk_below (g:=gb300) (o:=.cells #[.string a0_0,.slice A0_1 l0_1.length c0_1] 24 (0,0)) (by (with_reducible repeat first|apply b1_|apply b2_|apply b3_);exact BK300.out) hb)
    have n4_:=m_ (blk_below (g:=gb311) (o:=.cells #[.string t307,.slice Ao41 t308.length co41] 29 (0,0)) (by (with_reducible repeat first|apply b1_|apply b2_|apply b3_);exact BK311.out) hb)
    have n5_:=m_ (l5_ (by repeat (first|(with_reducible first|exact HB.out|apply l1_|apply l2_|apply l3_|refine l4_ ?_ GE300.out|refine l4_ ?_ GE311.out)|exact HB.out)) hb)
    clear HO305
    clear HO310
    clear HO316
    clear BK300
    clear BK311
    clear HB
    have HO305:=n0_
    have HO310:=n1_
    have HO316:=n2_
    have BK300:=n3_
    have BK311:=n4_
    have HB:=n5_
    clear n0_ n1_ n2_ n3_ n4_ n5_
    (try clear hb)
    (try clear hb2)
    (try clear hk)
    (try clear hi)
    refine hK.out _ _ ⟨(c_ BK311.out 0).trans rfl,(c_ BK311.out 1).trans rfl,(c_ BK300.out 0).trans rfl,(c_ BK300.out 1).trans rfl⟩ (fun hHeld=>?_)
    clear hK K
    refine norm_ (a':=?_) ?_ ?_
    rotate_left
    ·show Act.put _ (some 25) _ = _
     simp only [Act.put,s1_,s2_,s3_,i64_w,i32_w]
     rfl
    refine pure_ (i:=4) (N:=some 26) (v:=?_) (a':=?_) #[true,true,true,true,true] rfl rfl (by kernel_rfl) (fun _ _ _ h=>h) (Or.inl ⟨by rfl,?_⟩) ?_ ?_
    rotate_left
    ·intro w'
     go_simp
     with_reducible rfl
    rotate_left
    ·simp only [Act.put,s1_,s2_,s3_,i64_w,i32_w]
     rfl
    refine done_ (by kernel_rfl) ?_
    try go_wp2
    go_ret
    exact ⟨by first|rfl|(simp [e1_,e2_] <;> rfl)|(simp [*,e1_,e2_] <;> rfl)|(simp [e1_,e2_,pk_empty1,pk_empty2];done)|(simp [*,e1_,e2_,pk_empty1,pk_empty2];done),by repeat (first|(with_reducible first|exact HB.out|apply l1_|apply l2_|apply l3_|refine l4_ ?_ GE300.out|refine l4_ ?_ GE311.out)|exact HB.out)⟩
   ·replace c28:=Bool.eq_false_iff.mpr c28
    subst c28
    have H1 : (some false) = some r:=by rw [if_neg (show ¬ (false = true) by decide)] at H;exact H
    clear H
    have H:=H1
    clear H1
    obtain rfl:=Option.some.inj H
    go_enter Tryd.func3,Tryd.ntmps3
    try go_wp2_with (first|((with_reducible refine gate_dst (N:=1) rfl ?_);refine box_event ?hg (N:=1) ?hd (cs:=#[.string a0_0,.slice A0_1 l0_1.length c0_1]) (t:=24) ?hr ?_;(case hd=>rfl);(case hg=>rfl);(case hr=>first|(go_simp;done)|(go_simp;rfl));intro gb300 hg w47 hbox hb;have n0_:=m_ (l5_ (by repeat (first|(with_reducible first|exact HB.out|apply l1_|apply l2_|apply l3_)|exact HB.out)) hb);have n1_:=m_ (hbox);have n2_:=m_ ((by rw [hg];exact (l6_ (by repeat (first|(with_reducible first|exact HB.out|apply l1_|apply l2_|apply l3_)|exact HB.out))) : w.heap.size ≤ gb300));have n3_:=m_ ((by rw [hg];exact (l6_ (by repeat (first|(with_reducible first|exact HB.out|apply l1_|apply l2_|apply l3_)|exact HB.out))) : w.heap.size ≤ gb300));clear HB;have HB:=n0_;have BK300:=n1_;have GW300:=n2_;have GE300:=n3_;clear n0_ n1_ n2_ n3_;clear hb hbox hg;have hcz48_0 : w47.cell? ⟨gb300,0,none⟩ = some (.string a0_0):=(c_ BK300.out 0).trans rfl;have hcz48_1 : w47.cell? ⟨gb300,1,none⟩ = some (.slice A0_1 l0_1.length c0_1):=(c_ BK300.out 1).trans rfl;have hfz48_0:=f_ BK300.out 0;have hfz48_1:=f_ BK300.out 1)|((with_reducible refine gate_callee (f:=8) rfl ?_);refine goesL_ (some 9) rfl rfl Tryd.func8 (by kernel_rfl) rfl #[.agg #[.string a0_0,.slice A0_1 l0_1.length c0_1],.int .i64 1048576] rfl (by (try simp only [List.map_toArray,List.map_cons,List.map_nil]);first|done|rfl|(simp only [List.length_drop,List.length_take];rfl)) ?_;(with_reducible refine (laws_szStream.calls k a0_0 _ _ l0_1 1048576 t301 _ ?side1 ?side2 A2.out).mono ?_);(case side1=>repeat (first|exact (Kd.C_below HR0_1.out HB.out)|(with_reducible refine Kd.C_alloc ?_ _)|(with_reducible refine Kd.C_drewN ?_ _)|(with_reducible refine Kd.C_drew ?_)));(case side2=>exact HC0_1.out);rintro e w49 ⟨rfl,hb⟩;refine ⟨_,rfl,?_⟩;have n0_:=m_ (blk_below (g:=gb300) (o:=.cells #[.string a0_0,.slice A0_1 l0_1.length c0_1] 24 (0,0)) (by (with_reducible repeat first|apply b1_|apply b2_|apply b3_);exact BK300.out) hb);have n1_:=m_ (l5_ (by repeat (first|(with_reducible first|exact HB.out|apply l1_|apply l2_|apply l3_|refine l4_ ?_ GE300.out)|exact HB.out)) hb);clear BK300;clear HB;have BK300:=n0_;have HB:=n1_;clear n0_ n1_;(try clear hb);(try clear hb2);(try clear hk);(try clear hi);have hcz50_0 : w49.cell? ⟨gb300,0,none⟩ = some (.string a0_0):=(c_ BK300.out 0).trans rfl;have hcz50_1 : w49.cell? ⟨gb300,1,none⟩ = some (.slice A0_1 l0_1.length c0_1):=(c_ BK300.out 1).trans rfl;have hfz50_0:=f_ BK300.out 0;have hfz50_1:=f_ BK300.out 1)|((with_reducible refine gate_callee (f:=10) rfl ?_);refine goesL_ (some 13) rfl rfl Tryd.func10 (by kernel_rfl) rfl #[.agg #[.string a0_0,.slice A0_1 l0_1.length c0_1]] rfl (by (try simp only [List.map_toArray,List.map_cons,List.map_nil]);first|done|rfl|(simp only [List.length_drop,List.length_take];rfl)) ?_;(with_reducible refine (laws_toStream.calls k a0_0 _ _ l0_1 t302 t303 _ ?side1 ?side2 A7.out).mono ?_);(case side1=>repeat (first|exact (Kd.C_below HR0_1.out HB.out)|(with_reducible refine Kd.C_alloc ?_ _)|(with_reducible refine Kd.C_drewN ?_ _)|(with_reducible refine Kd.C_drew ?_)));(case side2=>exact HC0_1.out);rintro e w51 ⟨v304,rfl,ho0,hb⟩;refine ⟨_,rfl,?_⟩;have n0_:=m_ (Kd.R_lower ho0 (l6_ (by repeat (first|(with_reducible first|exact HB.out|apply l1_|apply l2_|apply l3_|refine l4_ ?_ GE300.out)|exact HB.out))));have n1_:=m_ (blk_below (g:=gb300) (o:=.cells #[.string a0_0,.slice A0_1 l0_1.length c0_1] 24 (0,0)) (by (with_reducible repeat first|apply b1_|apply b2_|apply b3_);exact BK300.out) hb);have n2_:=m_ (l5_ (by repeat (first|(with_reducible first|exact HB.out|apply l1_|apply l2_|apply l3_|refine l4_ ?_ GE300.out)|exact HB.out)) hb);clear BK300;clear HB;have HO305:=n0_;have BK300:=n1_;have HB:=n2_;clear n0_ n1_ n2_;(try clear hb);(try clear hb2);(try clear hk);(try clear hi);(try clear ho0);obtain ⟨Ao52,co52,eo52⟩:=Kd.R_slice HO305.out;subst eo52)|((with_reducible refine gate_callee (f:=9) rfl ?_);refine goesL_ (some 14) rfl rfl Tryd.func9 (by kernel_rfl) rfl #[.agg #[.string t302,.slice Ao52 t303.length co52]] rfl (by (try simp only [List.map_toArray,List.map_cons,List.map_nil]);first|done|rfl|(simp only [List.length_drop,List.length_take];rfl)) ?_;(with_reducible refine (spec_StreamOk.calls k t302 _ _ t303 t306 _ ?side1 ?side2 A8.out).mono ?_);(case side1=>repeat (first|exact (Kd.R_reads' HO305.out).2.2|(with_reducible refine Kd.C_alloc ?_ _)|(with_reducible refine Kd.C_drewN ?_ _)|(with_reducible refine Kd.C_drew ?_)));(case side2=>exact (Kd.R_reads' HO305.out).2.1);rintro e w53 ⟨rfl,hb⟩;refine ⟨_,rfl,?_⟩;have n0_:=m_ (Kd.R_below (by (with_reducible repeat (first|apply Kd.R_alloc|apply Kd.R_drewN|apply Kd.R_drew));exact HO305.out) hb);have n1_:=m_ (blk_below (g:=gb300) (o:=.cells #[.string a0_0,.slice A0_1 l0_1.length c0_1] 24 (0,0)) (by (with_reducible repeat first|apply b1_|apply b2_|apply b3_);exact BK300.out) hb);have n2_:=m_ (l5_ (by repeat (first|(with_reducible first|exact HB.out|apply l1_|apply l2_|apply l3_|refine l4_ ?_ GE300.out)|exact HB.out)) hb);clear HO305;clear BK300;clear HB;have HO305:=n0_;have BK300:=n1_;have HB:=n2_;clear n0_ n1_ n2_;(try clear hb);(try clear hb2);(try clear hk);(try clear hi);have hcz54_0 : w53.cell? ⟨gb300,0,none⟩ = some (.string a0_0):=(c_ BK300.out 0).trans rfl;have hcz54_1 : w53.cell? ⟨gb300,1,none⟩ = some (.slice A0_1 l0_1.length c0_1):=(c_ BK300.out 1).trans rfl;have hfz54_0:=f_ BK300.out 0;have hfz54_1:=f_ BK300.out 1)|((with_reducible refine gate_callee (f:=10) rfl ?_);refine goesL_ (some 16) rfl rfl Tryd.func10 (by kernel_rfl) rfl #[.agg #[.string a0_0,.slice A0_1 l0_1.length c0_1]] rfl (by (try simp only [List.map_toArray,List.map_cons,List.map_nil]);first|done|rfl|(simp only [List.length_drop,List.length_take];rfl)) ?_;(with_reducible refine (laws_toStream.calls k a0_0 _ _ l0_1 t307 t308 _ ?side1 ?side2 A9.out).mono ?_);(case side1=>repeat (first|exact (Kd.C_below HR0_1.out HB.out)|(with_reducible refine Kd.C_alloc ?_ _)|(with_reducible refine Kd.C_drewN ?_ _)|(with_reducible refine Kd.C_drew ?_)));(case side2=>exact HC0_1.out);rintro e w55 ⟨v309,rfl,ho0,hb⟩;refine ⟨_,rfl,?_⟩;have n0_:=m_ (Kd.R_elder' (by (with_reducible repeat (first|apply Kd.R_alloc|apply Kd.R_drewN|apply Kd.R_drew));exact HO305.out) (Kd.R_base ho0) hb);have n1_:=m_ (Kd.R_lower (Kd.R_new' ho0 (Kd.R_lt (by (with_reducible repeat (first|apply Kd.R_alloc|apply Kd.R_drewN|apply Kd.R_drew));exact HO305.out))) (l6_ (by repeat (first|(with_reducible first|exact HB.out|apply l1_|apply l2_|apply l3_|refine l4_ ?_ GE300.out)|exact HB.out))));have n2_:=m_ (blk_below (g:=gb300) (o:=.cells #[.string a0_0,.slice A0_1 l0_1.length c0_1] 24 (0,0)) (by (with_reducible repeat first|apply b1_|apply b2_|apply b3_);exact BK300.out) hb);have n3_:=m_ (l5_ (by repeat (first|(with_reducible first|exact HB.out|apply l1_|apply l2_|apply l3_|refine l4_ ?_ GE300.out)|exact HB.out)) hb);clear HO305;clear BK300;clear HB;have HO305:=n0_;have HO310:=n1_;have BK300:=n2_;have HB:=n3_;clear n0_ n1_ n2_ n3_;(try clear hb);(try clear hb2);(try clear hk);(try clear hi);(try clear ho0))|((with_reducible refine gate_dst (N:=5) rfl ?_);refine box_event ?hg (N:=5) ?hd (cs:=#[.string (⟨#[]⟩ : ByteArray),.slice none 0 0]) (t:=29) ?hr ?_;(case hd=>rfl);(case hg=>rfl);(case hr=>first|(go_simp;done)|(go_simp;rfl));intro gb311 hg w56 hbox hb;have n0_:=m_ (Kd.R_below (by (with_reducible repeat (first|apply Kd.R_alloc|apply Kd.R_drewN|apply Kd.R_drew));exact HO305.out) hb);have n1_:=m_ (Kd.R_below (by (with_reducible repeat (first|apply Kd.R_alloc|apply Kd.R_drewN|apply Kd.R_drew));exact HO310.out) hb);have n2_:=m_ (blk_below (g:=gb300) (o:=.cells #[.string a0_0,.slice A0_1 l0_1.length c0_1] 24 (0,0)) (by (with_reducible repeat first|apply b1_|apply b2_|apply b3_);exact BK300.out) hb);have n3_:=m_ (l5_ (by repeat (first|(with_reducible first|exact HB.out|apply l1_|apply l2_|apply l3_|refine l4_ ?_ GE300.out)|exact HB.out)) hb);have n4_:=m_ (hbox);have n5_:=m_ ((by rw [hg];exact (l6_ (by repeat (first|(with_reducible first|exact HB.out|apply l1_|apply l2_|apply l3_|refine l4_ ?_ GE300.out)|exact HB.out))) : w.heap.size ≤ gb311));have n6_:=n5_;have n7_:=m_ ((by rw [hg];exact Nat.ne_of_lt (blk_lt (g:=gb300) (o:=.cells #[.string a0_0,.slice A0_1 l0_1.length c0_1] 24 (0,0)) (by (with_reducible repeat first|apply b1_|apply b2_|apply b3_);exact BK300.out)) : gb300 ≠ gb311));have n8_:=m_ ((by rw [hg];exact Nat.ne_of_gt (blk_lt (g:=gb300) (o:=.cells #[.string a0_0,.slice A0_1 l0_1.length c0_1] 24 (0,0)) (by (with_reducible repeat first|apply b1_|apply b2_|apply b3_);exact BK300.out)) : gb311 ≠ gb300));clear HO305;clear HO310;clear BK300;clear HB;have HO305:=n0_;have HO310:=n1_;have BK300:=n2_;have HB:=n3_;have BK311:=n4_;have GW311:=n5_;have GE311:=n6_;have NB300_311:=n7_;have NB311_300:=n8_;clear n0_ n1_ n2_ n3_ n4_ n5_ n6_ n7_ n8_;clear hb hbox hg;have hnb57:=NB311_300.out;have hnc57:=NB300_311.out;have hcz58_0 : w56.cell? ⟨gb311,0,none⟩ = some (.string (⟨#[]⟩ : ByteArray)):=(c_ BK311.out 0).trans rfl;have hcz58_1 : w56.cell? ⟨gb311,1,none⟩ = some (.slice none 0 0):=(c_ BK311.out 1).trans rfl;have hfz58_0:=f_ BK311.out 0;have hfz58_1:=f_ BK311.out 1;obtain ⟨Ao59,co59,eo59⟩:=Kd.R_slice HO310.out;subst eo59)|((with_reducible refine gate_callee (f:=11) rfl ?_);refine goesL_ (some 18) rfl rfl Tryd.func11 (by kernel_rfl) rfl #[.agg #[.string t307,.slice Ao59 t308.length co59]] rfl (by (try simp only [List.map_toArray,List.map_cons,List.map_nil]);first|done|rfl|(simp only [List.length_drop,List.length_take];rfl)) ?_;(with_reducible refine (impl_StreamOk.calls k t307 _ _ t308 t312 _ ?side1 ?side2 ?side3 A10.out).mono ?_);(case side1=>refine (Kd.R_reads' (e:=41) (base:=w.heap.size) (ok:=fun k_=>(True ∧ some k_ ≠ (.slice Ao52 t303.length co52 : Value).ownBlock)) (n:=t308.length) (c:=co59) ?_).2.2;exact (by (with_reducible repeat (first|apply Kd.R_alloc|apply Kd.R_drewN|apply Kd.R_drew));exact (Kd.R_mono (Kd.R_far (p:=⟨gb311,1,none⟩) (Kd.R_far (p:=⟨gb311,0,none⟩) (Kd.R_types HO310.out BK311.out (by decide)) (fun _ hk=>hk.2) (.string t307)) (fun _ hk=>hk.2) (.slice Ao59 t308.length co59)) (fun _ h_=>h_.1))));(case side2=>exact (Kd.R_reads' HO310.out).2.1);(case side3=>first|(with_reducible exact HG.out)|exact GV_below HG.out (by repeat (first|(with_reducible first|exact HB.out|apply l1_|apply l2_|apply l3_|refine l4_ ?_ GE300.out|refine l4_ ?_ GE311.out)|exact HB.out)));rintro e w60 ⟨rfl,hb⟩;refine ⟨_,rfl,?_⟩;have n0_:=m_ (Kd.R_below (by (with_reducible repeat (first|apply Kd.R_alloc|apply Kd.R_drewN|apply Kd.R_drew));exact (Kd.R_mono (Kd.R_far (p:=⟨gb311,1,none⟩) (Kd.R_far (p:=⟨gb311,0,none⟩) (Kd.R_types HO305.out BK311.out (by decide)) (fun _ hk=>hk.2) (.string t307)) (fun _ hk=>hk.2) (.slice Ao59 t308.length co59)) (fun _ h_=>h_.1))) hb);have n1_:=m_ (Kd.R_below (by (with_reducible repeat (first|apply Kd.R_alloc|apply Kd.R_drewN|apply Kd.R_drew));exact (Kd.R_mono (Kd.R_far (p:=⟨gb311,1,none⟩) (Kd.R_far (p:=⟨gb311,0,none⟩) (Kd.R_types HO310.out BK311.out (by decide)) (fun _ hk=>hk.2) (.string t307)) (fun _ hk=>hk.2) (.slice Ao59 t308.length co59)) (fun _ h_=>h_.1))) hb);have n2_:=m_ (blk_below (g:=gb300) (o:=.cells #[.string a0_0,.slice A0_1 l0_1.length c0_1] 24 (0,0)) (by (with_reducible repeat first|apply b1_|apply b2_|apply b3_);refine b4_ ?_ NB300_311.out _;(with_reducible repeat first|apply b1_|apply b2_|apply b3_);refine b4_ ?_ NB300_311.out _;(with_reducible repeat first|apply b1_|apply b2_|apply b3_);exact BK300.out) hb);have n3_:=m_ (blk_below (g:=gb311) (o:=.cells #[.string t307,.slice Ao59 t308.length co59] 29 (0,0)) (by (with_reducible repeat first|apply b1_|apply b2_|apply b3_);refine blk_put (cs:=#[.string t307,.slice none 0 0]) ?_ 1 _ rfl;(with_reducible repeat first|apply b1_|apply b2_|apply b3_);refine blk_put (cs:=#[.string (⟨#[]⟩ : ByteArray),.slice none 0 0]) ?_ 0 _ rfl;(with_reducible repeat first|apply b1_|apply b2_|apply b3_);exact BK311.out) hb);have n4_:=m_ (l5_ (by repeat (first|(with_reducible first|exact HB.out|apply l1_|apply l2_|apply l3_|refine l4_ ?_ GE300.out|refine l4_ ?_ GE311.out)|exact HB.out)) hb);clear HO305;clear HO310;clear BK300;clear BK311;clear HB;have HO305:=n0_;have HO310:=n1_;have BK300:=n2_;have BK311:=n3_;have HB:=n4_;clear n0_ n1_ n2_ n3_ n4_;(try clear hb);(try clear hb2);(try clear hk);(try clear hi)))
    have n0_:=m_ (Kd.R_drew HO305.out)
    have n1_:=m_ (Kd.R_drew HO310.out)
    have n2_:=m_ (b2_ BK300.out)
    have n3_:=m_ (b2_ BK311.out)
    have n4_:=m_ (l3_ HB.out)
    clear HO305
    clear HO310
    clear BK300
    clear BK311
    clear HB
    have HO305:=n0_
    have HO310:=n1_
    have BK300:=n2_
    have BK311:=n3_
    have HB:=n4_
    clear n0_ n1_ n2_ n3_ n4_
    refine start_ (n:=5) (S:=fun w'=>w'.cell? ⟨gb311,0,none⟩ = some (.string t307) ∧ w'.cell? ⟨gb311,1,none⟩ = some (.slice Ao59 t308.length co59) ∧ w'.cell? ⟨gb300,0,none⟩ = some (.string a0_0) ∧ w'.cell? ⟨gb300,1,none⟩ = some (.slice A0_1 l0_1.length c0_1)) (ds:=[]) #[false,false,false,false,false] (by kernel_rfl) rfl rfl ⟨(c_ BK311.out 0).trans rfl,(c_ BK311.out 1).trans rfl,(c_ BK300.out 0).trans rfl,(c_ BK300.out 1).trans rfl⟩ (fun hHeld=>?_)
    generalize w60.drew = w61 at HO305 HO310 BK300 BK311 HB hHeld ⊢
    refine take_ (i:=0) (N:=some 22) (v:=?_) (a':=?_) #[true,false,false,false,false] rfl rfl (by kernel_rfl) (fun _ _ _ h=>h) (Or.inl ⟨by rfl,?_⟩) hHeld ?_ ?_
    rotate_left
    ·rintro w' ⟨s0,s1,s2,s3⟩
     go_simp
     with_reducible rfl
    rotate_left
    ·simp only [Act.put,s1_,s2_,s3_,i64_w,i32_w]
     rfl
    refine take_ (i:=1) (N:=some 23) (v:=?_) (a':=?_) #[true,true,false,false,false] rfl rfl (by kernel_rfl) (fun _ _ _ h=>h) (Or.inl ⟨by rfl,?_⟩) hHeld ?_ ?_
    rotate_left
    ·rintro w' ⟨s0,s1,s2,s3⟩
     go_simp
     with_reducible rfl
    rotate_left
    ·simp only [Act.put,s1_,s2_,s3_,i64_w,i32_w]
     rfl
    refine one_ (i:=2) (N:=some 24) #[true,true,true,false,false] rfl rfl (by kernel_rfl) (by decide) (fun K hK=>?_)
    refine goes_ Tryd.func10 (by kernel_rfl) rfl #[.agg #[.string a0_0,.slice A0_1 l0_1.length c0_1]] (by rfl) rfl rfl (by (try simp only [List.map_toArray,List.map_cons,List.map_nil]);first|done|rfl|(simp only [List.length_drop,List.length_take];rfl)) ?_
    with_reducible refine (laws_toStream.calls k a0_0 _ _ l0_1 t313 t314 _ ?side1 ?side2 A26.out).mono ?_
    (case side1=>repeat (first|exact (Kd.C_below HR0_1.out HB.out)|(with_reducible refine Kd.C_alloc ?_ _)|(with_reducible refine Kd.C_drewN ?_ _)|(with_reducible refine Kd.C_drew ?_)))
    (case side2=>exact HC0_1.out)
    rintro e w62 ⟨v315,rfl,ho0,hb⟩
    refine ⟨_,rfl,?_⟩
    have n0_:=m_ (Kd.R_elder' (by (with_reducible repeat (first|apply Kd.R_alloc|apply Kd.R_drewN|apply Kd.R_drew));exact HO305.out) (Kd.R_base ho0) hb)
    have n1_:=m_ (Kd.R_elder' (by (with_reducible repeat (first|apply Kd.R_alloc|apply Kd.R_drewN|apply Kd.R_drew));exact HO310.out) (Kd.R_base ho0) hb)
    have n2_:=m_ (Kd.R_lower (Kd.R_new' (Kd.R_new' ho0 (Kd.R_lt (by (with_reducible repeat (first|apply Kd.R_alloc|apply Kd.R_drewN|apply Kd.R_drew));exact HO305.out))) (Kd.R_lt (by (with_reducible repeat (first|apply Kd.R_alloc|apply Kd.R_drewN|apply Kd.R_drew));exact HO310.out))) (l6_ (by repeat (first|(with_reducible first|exact HB.out|apply l1_|apply l2_|apply l3_|refine l4_ ?_ GE300.out|refine l4_ ?_ GE311.out)|exact HB.out))))
    have n3_:=m_ (blk_below (g:=gb300) (o:=.cells #[.string a0_0,.slice A0_1 l0_1.length c0_1] 24 (0,0)) (by (with_reducible repeat first|apply b1_|apply b2_|apply b3_);exact BK300.out) hb)
    have n4_:=m_ (blk_below (g:=gb311) (o:=.cells #[.string t307,.slice Ao59 t308.length co59] 29 (0,0)) (by (with_reducible repeat first|apply b1_|apply b2_|apply b3_);exact BK311.out) hb)
    have n5_:=m_ (l5_ (by repeat (first|(with_reducible first|exact HB.out|apply l1_|apply l2_|apply l3_|refine l4_ ?_ GE300.out|refine l4_ ?_ GE311.out)|exact HB.out)) hb)
    clear HO305
    clear HO310
    clear BK300
    clear BK311
    clear HB
    have HO305:=n0_
    have HO310:=n1_
    have HO316:=n2_
    have BK300:=n3_
    have BK311:=n4_
    have HB:=n5_
    clear n0_ n1_ n2_ n3_ n4_ n5_
    (try clear hb)
    (try clear hb2)
    (try clear hk)
    (try clear hi)
    (try clear ho0)
    obtain ⟨Ao63,co63,eo63⟩:=Kd.R_slice HO316.out
    (first|subst eo63|(injection eo63 with f1_ f2_ f3_;have f4_:=f1_.symm;have f5_:=f3_.symm;clear f1_ f2_ f3_;subst f4_;subst f5_))
    refine hK.out _ _ ⟨(c_ BK311.out 0).trans rfl,(c_ BK311.out 1).trans rfl,(c_ BK300.out 0).trans rfl,(c_ BK300.out 1).trans rfl⟩ (fun hHeld=>?_)
    clear hK K
    refine norm_ (a':=?_) ?_ ?_
    rotate_left
    ·show Act.put _ (some 24) _ = _
     simp only [Act.put,s1_,s2_,s3_,i64_w,i32_w]
     rfl
    refine one_ (i:=3) (N:=some 25) #[true,true,true,true,false] rfl rfl (by kernel_rfl) (by decide) (fun K hK=>?_)
    refine goes_ Tryd.func12 (by kernel_rfl) rfl #[.agg #[.string t307,.slice Ao59 t308.length co59],.agg #[.string t313,.slice Ao63 t314.length co63]] (by rfl) rfl rfl (by (try simp only [List.map_toArray,List.map_cons,List.map_nil]);first|done|rfl|(simp only [List.length_drop,List.length_take];rfl)) ?_
    with_reducible refine (laws_eqStream.calls k t307 _ _ t308 t313 _ _ t314 false _ ?side1 ?side2 ?side3 ?side4 A27.out).mono ?_
    (case side1=>repeat (first|exact (Kd.R_reads' HO310.out).2.2|(with_reducible refine Kd.C_alloc ?_ _)|(with_reducible refine Kd.C_drewN ?_ _)|(with_reducible refine Kd.C_drew ?_)))
    (case side2=>exact (Kd.R_reads' HO310.out).2.1)
    (case side3=>repeat (first|exact (Kd.R_reads' HO316.out).2.2|(with_reducible refine Kd.C_alloc ?_ _)|(with_reducible refine Kd.C_drewN ?_ _)|(with_reducible refine Kd.C_drew ?_)))
    (case side4=>exact (Kd.R_reads' HO316.out).2.1)
    rintro e w64 ⟨rfl,hb⟩
    refine ⟨_,rfl,?_⟩
    have n0_:=m_ (Kd.R_below (by (with_reducible repeat (first|apply Kd.R_alloc|apply Kd.R_drewN|apply Kd.R_drew));exact HO305.out) hb)
    have n1_:=m_ (Kd.R_below (by (with_reducible repeat (first|apply Kd.R_alloc|apply Kd.R_drewN|apply Kd.R_drew));exact HO310.out) hb)
    have n2_:=m_ (Kd.R_below (by (with_reducible repeat (first|apply Kd.R_alloc|apply Kd.R_drewN|apply Kd.R_drew));exact HO316.out) hb)
    have n3_:=m_ (blk_below (g:=gb300) (o:=.cells #[.string a0_0,.slice A0_1 l0_1.length c0_1] 24 (0,0)) (by (with_reducible repeat first|apply b1_|apply b2_|apply b3_);exact BK300.out) hb)
    have n4_:=m_ (blk_below (g:=gb311) (o:=.cells #[.string t307,.slice Ao59 t308.length co59] 29 (0,0)) (by (with_reducible repeat first|apply b1_|apply b2_|apply b3_);exact BK311.out) hb)
    have n5_:=m_ (l5_ (by repeat (first|(with_reducible first|exact HB.out|apply l1_|apply l2_|apply l3_|refine l4_ ?_ GE300.out|refine l4_ ?_ GE311.out)|exact HB.out)) hb)
    clear HO305
    clear HO310
    clear HO316
    clear BK300
    clear BK311
    clear HB
    have HO305:=n0_
    have HO310:=n1_
    have HO316:=n2_
    have BK300:=n3_
    have BK311:=n4_
    have HB:=n5_
    clear n0_ n1_ n2_ n3_ n4_ n5_
    (try clear hb)
    (try clear hb2)
    (try clear hk)
    (try clear hi)
    refine hK.out _ _ ⟨(c_ BK311.out 0).trans rfl,(c_ BK311.out 1).trans rfl,(c_ BK300.out 0).trans rfl,(c_ BK300.out 1).trans rfl⟩ (fun hHeld=>?_)
    clear hK K
    refine norm_ (a':=?_) ?_ ?_
    rotate_left
    ·show Act.put _ (some 25) _ = _
     simp only [Act.put,s1_,s2_,s3_,i64_w,i32_w]
     rfl
    refine pure_ (i:=4) (N:=some 26) (v:=?_) (a':=?_) #[true,true,true,true,true] rfl rfl (by kernel_rfl) (fun _ _ _ h=>h) (Or.inl ⟨by rfl,?_⟩) ?_ ?_
    rotate_left
    ·intro w'
     go_simp
     with_reducible rfl
    rotate_left
    ·simp only [Act.put,s1_,s2_,s3_,i64_w,i32_w]
     rfl
    refine done_ (by kernel_rfl) ?_
    try go_wp2
    go_ret
    exact ⟨by first|rfl|(simp [e1_,e2_] <;> rfl)|(simp [*,e1_,e2_] <;> rfl)|(simp [e1_,e2_,pk_empty1,pk_empty2];done)|(simp [*,e1_,e2_,pk_empty1,pk_empty2];done),by repeat (first|(with_reducible first|exact HB.out|apply l1_|apply l2_|apply l3_|refine l4_ ?_ GE300.out|refine l4_ ?_ GE311.out)|exact HB.out)⟩

end Go.Proofs.YtkcjmmhleepjeaaDoor.A
