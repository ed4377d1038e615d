-- Printed by myprint.py (wip/tools) out of the translation. Not trusted: Lean checks it.
import Derived.Test.YtkcjmmhleepjeaaDoorAx0
import Derived.Test.YtkcjmmhleepjeaaDoorAx9
import Derived.Test.YtkcjmmhleepjeaaDoorAx10
import Derived.Test.YtkcjmmhleepjeaaDoorAx16
namespace Go.Proofs.YtkcjmmhleepjeaaDoor.A
open Go.RowKit Go.Proofs.YtkcjmmhleepjeaaDoorW.PrintWords Go.Proofs.YtkcjmmhleepjeaaDoorW.PrintLast Go.Proofs.YtkcjmmhleepjeaaDoorW.PrintMore
attribute [local go_sem] max2_int min2_int max_two min_two max_three min_three max_four min_four   -- for this text's walks alone
set_option linter.unusedVariables false
set_option linter.unusedSimpArgs false

/-! ### laws_FnExactStreamBack: function 6 -/
def laws_FnExactStreamBack.f (k : Nat) (a0_0 : ByteArray) (l0_1 : List (S62)) (a1 : Int) : Option (Bool) := (laws_szStream.f k a0_0 l0_1 1048576).bind fun t395 => (if t395 < 0 then (some true) else ((laws_toStream.f k a0_0 l0_1).bind fun bt396 => ((spec_StreamBack.f k bt396.1 bt396.2 a1).bind fun t400 => ((laws_toStream.f k a0_0 l0_1).bind fun bt401 => ((impl_StreamBack.f k bt401.1 bt401.2 a1).bind fun t406 => (if t406 = t400 then ((laws_toStream.f k a0_0 l0_1).bind fun bt407 => ((laws_eqStream.f k bt401.1 bt401.2 bt407.1 bt407.2).bind fun t411 => (if t411 = true then (some true) else (some false)))) else (some false)))))))
theorem laws_FnExactStreamBack.mono : ∀ a0 a1 a2 k, LeO (laws_FnExactStreamBack.f k a0 a1 a2) (laws_FnExactStreamBack.f (k + 1) a0 a1 a2) := by
 intro a0 a1 a2 k
 unfold laws_FnExactStreamBack.f
 repeat' first
   | (with_reducible exact impl_StreamBack.mono _ _ _ _)
   | (with_reducible exact laws_eqStream.mono _ _ _ _ _)
   | (with_reducible exact laws_szStream.mono _ _ _ _)
   | (with_reducible exact laws_toStream.mono _ _ _)
   | (with_reducible exact spec_StreamBack.mono _ _ _ _)
   | (with_reducible exact LeO.refl _)
   | (with_reducible exact LeO.none _)
   | (with_reducible refine LeO.ite ?_ ?_)
   | (with_reducible refine LeO.bind ?_ (fun _ => ?_))
   | exact impl_StreamBack.mono _ _ _ _
   | exact laws_eqStream.mono _ _ _ _ _
   | exact laws_szStream.mono _ _ _ _
   | exact laws_toStream.mono _ _ _
   | exact spec_StreamBack.mono _ _ _ _
   | exact LeO.none _
   | refine LeO.ite ?_ ?_
   | refine LeO.bind ?_ (fun _ => ?_)
set_option maxHeartbeats 8000000 in
set_option maxRecDepth 100000 in
theorem laws_FnExactStreamBack.calls (k : Nat) (a0_0 : ByteArray) (A0_1 : Option Addr) (c0_1 : Nat) (l0_1 : List (S62)) (a1 : Int) (r : Bool) (w : World) (hr0_1 : Kd.C k62 w A0_1 l0_1.length l0_1) (hc0_1 : l0_1.length ≤ c0_1) (hG : GV w) (h : laws_FnExactStreamBack.f k a0_0 l0_1 a1 = some r) :
  Calls Tryd.prog 6 #[.agg #[.string a0_0,.slice A0_1 l0_1.length c0_1],.int .i64 a1] w fun e w'=>e = .returned (.bool r) ∧ Below w.heap.size w w':=by
 have hu24:=Tryd.underlying24
 have hu29:=Tryd.underlying29
 have HG:=m_ hG
 clear hG
 have HR0_1:=m_ hr0_1
 have HC0_1:=m_ hc0_1
 clear hr0_1 hc0_1
 have HB:=m_ (Below.refl w.heap.size w)
 have H : ((laws_szStream.f k a0_0 l0_1 1048576).bind fun t395=>(if t395 < 0 then (some true) else ((laws_toStream.f k a0_0 l0_1).bind fun bt396=>((spec_StreamBack.f k bt396.1 bt396.2 a1).bind fun t400=>((laws_toStream.f k a0_0 l0_1).bind fun bt401=>((impl_StreamBack.f k bt401.1 bt401.2 a1).bind fun t406=>(if t406 = t400 then ((laws_toStream.f k a0_0 l0_1).bind fun bt407=>((laws_eqStream.f k bt401.1 bt401.2 bt407.1 bt407.2).bind fun t411=>(if t411 = true then (some true) else (some false)))) else (some false)))))))) = some r:=h
 clear h
 replace H:=Option.bind_eq_some_iff.mp H
 obtain ⟨t395,A30,H⟩:=H
 replace H : (if t395 < 0 then (some true) else ((laws_toStream.f k a0_0 l0_1).bind fun bt396=>((spec_StreamBack.f k bt396.1 bt396.2 a1).bind fun t400=>((laws_toStream.f k a0_0 l0_1).bind fun bt401=>((impl_StreamBack.f k bt401.1 bt401.2 a1).bind fun t406=>(if t406 = t400 then ((laws_toStream.f k a0_0 l0_1).bind fun bt407=>((laws_eqStream.f k bt401.1 bt401.2 bt407.1 bt407.2).bind fun t411=>(if t411 = true then (some true) else (some false)))) else (some false))))))) = some r:=H
 have A3:=m_ A30
 clear A30
 by_cases c4 : t395 < 0
 ·rw [if_pos c4] at H
  have c4b0 : decide (t395 < 0) = true:=decide_eq_true c4
  clear c4
  obtain rfl:=Option.some.inj H
  go_enter Tryd.func6,Tryd.ntmps6
  go_wp2_with (first|((with_reducible refine gate_dst (N:=2) rfl ?_);refine box_event ?hg (N:=2) ?hd (cs:=#[.string a0_0,.slice A0_1 l0_1.length c0_1]) (t:=24) ?hr ?_;(case hd=>rfl);(case hg=>rfl);(case hr=>first|(go_simp;done)|(go_simp;rfl));intro gb394 hg w5 hbox hb;have n0_:=m_ (l5_ (by repeat (first|(with_reducible first|exact HB.out|apply l1_|apply l2_|apply l3_)|exact HB.out)) hb);have n1_:=m_ (hbox);have n2_:=m_ ((by rw [hg];exact (l6_ (by repeat (first|(with_reducible first|exact HB.out|apply l1_|apply l2_|apply l3_)|exact HB.out))) : w.heap.size ≤ gb394));have n3_:=m_ ((by rw [hg];exact (l6_ (by repeat (first|(with_reducible first|exact HB.out|apply l1_|apply l2_|apply l3_)|exact HB.out))) : w.heap.size ≤ gb394));clear HB;have HB:=n0_;have BK394:=n1_;have GW394:=n2_;have GE394:=n3_;clear n0_ n1_ n2_ n3_;clear hb hbox hg;have hcz6_0 : w5.cell? ⟨gb394,0,none⟩ = some (.string a0_0):=(c_ BK394.out 0).trans rfl;have hcz6_1 : w5.cell? ⟨gb394,1,none⟩ = some (.slice A0_1 l0_1.length c0_1):=(c_ BK394.out 1).trans rfl;have hfz6_0:=f_ BK394.out 0;have hfz6_1:=f_ BK394.out 1)|((with_reducible refine gate_callee (f:=8) rfl ?_);refine goesL_ (some 11) rfl rfl Tryd.func8 (by kernel_rfl) rfl #[.agg #[.string a0_0,.slice A0_1 l0_1.length c0_1],.int .i64 1048576] rfl (by (try simp only [List.map_toArray,List.map_cons,List.map_nil]);first|done|rfl|(simp only [List.length_drop,List.length_take];rfl)) ?_;(with_reducible refine (laws_szStream.calls k a0_0 _ _ l0_1 1048576 t395 _ ?side1 ?side2 A3.out).mono ?_);(case side1=>repeat (first|exact (Kd.C_below HR0_1.out HB.out)|(with_reducible refine Kd.C_alloc ?_ _)|(with_reducible refine Kd.C_drewN ?_ _)|(with_reducible refine Kd.C_drew ?_)));(case side2=>exact HC0_1.out);rintro e w7 ⟨rfl,hb⟩;refine ⟨_,rfl,?_⟩;have n0_:=m_ (blk_below (g:=gb394) (o:=.cells #[.string a0_0,.slice A0_1 l0_1.length c0_1] 24 (0,0)) (by (with_reducible repeat first|apply b1_|apply b2_|apply b3_);exact BK394.out) hb);have n1_:=m_ (l5_ (by repeat (first|(with_reducible first|exact HB.out|apply l1_|apply l2_|apply l3_|refine l4_ ?_ GE394.out)|exact HB.out)) hb);clear BK394;clear HB;have BK394:=n0_;have HB:=n1_;clear n0_ n1_;(try clear hb);(try clear hb2);(try clear hk);(try clear hi)))
  go_ret
  exact ⟨by first|rfl|(simp [e1_,e2_] <;> rfl)|(simp [*,e1_,e2_] <;> rfl)|(simp [e1_,e2_,pk_empty1,pk_empty2];done)|(simp [*,e1_,e2_,pk_empty1,pk_empty2];done),by repeat (first|(with_reducible first|exact HB.out|apply l1_|apply l2_|apply l3_|refine l4_ ?_ GE394.out)|exact HB.out)⟩
 ·rw [if_neg c4] at H
  have c4b0 : decide (t395 < 0) = false:=decide_eq_false c4
  clear c4
  replace H:=Option.bind_eq_some_iff.mp H
  obtain ⟨⟨t396,t397⟩,A80,H⟩:=H
  replace H : ((spec_StreamBack.f k t396 t397 a1).bind fun t400=>((laws_toStream.f k a0_0 l0_1).bind fun bt401=>((impl_StreamBack.f k bt401.1 bt401.2 a1).bind fun t406=>(if t406 = t400 then ((laws_toStream.f k a0_0 l0_1).bind fun bt407=>((laws_eqStream.f k bt401.1 bt401.2 bt407.1 bt407.2).bind fun t411=>(if t411 = true then (some true) else (some false)))) else (some false))))) = some r:=H
  have A8:=m_ A80
  clear A80
  replace H:=Option.bind_eq_some_iff.mp H
  obtain ⟨t400,A90,H⟩:=H
  replace H : ((laws_toStream.f k a0_0 l0_1).bind fun bt401=>((impl_StreamBack.f k bt401.1 bt401.2 a1).bind fun t406=>(if t406 = t400 then ((laws_toStream.f k a0_0 l0_1).bind fun bt407=>((laws_eqStream.f k bt401.1 bt401.2 bt407.1 bt407.2).bind fun t411=>(if t411 = true then (some true) else (some false)))) else (some false)))) = some r:=H
  have A9:=m_ A90
  clear A90
  replace H:=Option.bind_eq_some_iff.mp H
  obtain ⟨⟨t401,t402⟩,A100,H⟩:=H
  replace H : ((impl_StreamBack.f k t401 t402 a1).bind fun t406=>(if t406 = t400 then ((laws_toStream.f k a0_0 l0_1).bind fun bt407=>((laws_eqStream.f k t401 t402 bt407.1 bt407.2).bind fun t411=>(if t411 = true then (some true) else (some false)))) else (some false))) = some r:=H
  have A10:=m_ A100
  clear A100
  replace H:=Option.bind_eq_some_iff.mp H
  obtain ⟨t406,A110,H⟩:=H
  replace H : (if t406 = t400 then ((laws_toStream.f k a0_0 l0_1).bind fun bt407=>((laws_eqStream.f k t401 t402 bt407.1 bt407.2).bind fun t411=>(if t411 = true then (some true) else (some false)))) else (some false)) = some r:=H
  have A11:=m_ A110
  clear A110
  by_cases c12 : t406 = t400
  ·rw [if_pos c12] at H
   have c12b0 : (t406 == t400) = true:=beq_iff_eq.mpr c12
   have c12b1 : (t406 != t400) = false:=bne_eq_false_iff_eq.mpr c12
   clear c12
   replace H:=Option.bind_eq_some_iff.mp H
   obtain ⟨⟨t407,t408⟩,A130,H⟩:=H
   replace H : ((laws_eqStream.f k t401 t402 t407 t408).bind fun t411=>(if t411 = true then (some true) else (some false))) = some r:=H
   have A13:=m_ A130
   clear A130
   replace H:=Option.bind_eq_some_iff.mp H
   obtain ⟨t411,A140,H⟩:=H
   replace H : (if t411 = true then (some true) else (some false)) = some r:=H
   have A14:=m_ A140
   clear A140
   by_cases c15 : t411 = true
   ·subst c15
    have H1 : (some true) = some r:=by rw [if_pos rfl] at H;exact H
    clear H
    have H:=H1
    clear H1
    obtain rfl:=Option.some.inj H
    go_enter Tryd.func6,Tryd.ntmps6
    try go_wp2_with (first|((with_reducible refine gate_dst (N:=2) rfl ?_);refine box_event ?hg (N:=2) ?hd (cs:=#[.string a0_0,.slice A0_1 l0_1.length c0_1]) (t:=24) ?hr ?_;(case hd=>rfl);(case hg=>rfl);(case hr=>first|(go_simp;done)|(go_simp;rfl));intro gb394 hg w16 hbox hb;have n0_:=m_ (l5_ (by repeat (first|(with_reducible first|exact HB.out|apply l1_|apply l2_|apply l3_)|exact HB.out)) hb);have n1_:=m_ (hbox);have n2_:=m_ ((by rw [hg];exact (l6_ (by repeat (first|(with_reducible first|exact HB.out|apply l1_|apply l2_|apply l3_)|exact HB.out))) : w.heap.size ≤ gb394));have n3_:=m_ ((by rw [hg];exact (l6_ (by repeat (first|(with_reducible first|exact HB.out|apply l1_|apply l2_|apply l3_)|exact HB.out))) : w.heap.size ≤ gb394));clear HB;have HB:=n0_;have BK394:=n1_;have GW394:=n2_;have GE394:=n3_;clear n0_ n1_ n2_ n3_;clear hb hbox hg;have hcz17_0 : w16.cell? ⟨gb394,0,none⟩ = some (.string a0_0):=(c_ BK394.out 0).trans rfl;have hcz17_1 : w16.cell? ⟨gb394,1,none⟩ = some (.slice A0_1 l0_1.length c0_1):=(c_ BK394.out 1).trans rfl;have hfz17_0:=f_ BK394.out 0;have hfz17_1:=f_ BK394.out 1)|((with_reducible refine gate_callee (f:=8) rfl ?_);refine goesL_ (some 11) rfl rfl Tryd.func8 (by kernel_rfl) rfl #[.agg #[.string a0_0,.slice A0_1 l0_1.length c0_1],.int .i64 1048576] rfl (by (try simp only [List.map_toArray,List.map_cons,List.map_nil]);first|done|rfl|(simp only [List.length_drop,List.length_take];rfl)) ?_;(with_reducible refine (laws_szStream.calls k a0_0 _ _ l0_1 1048576 t395 _ ?side1 ?side2 A3.out).mono ?_);(case side1=>repeat (first|exact (Kd.C_below HR0_1.out HB.out)|(with_reducible refine Kd.C_alloc ?_ _)|(with_reducible refine Kd.C_drewN ?_ _)|(with_reducible refine Kd.C_drew ?_)));(case side2=>exact HC0_1.out);rintro e w18 ⟨rfl,hb⟩;refine ⟨_,rfl,?_⟩;have n0_:=m_ (blk_below (g:=gb394) (o:=.cells #[.string a0_0,.slice A0_1 l0_1.length c0_1] 24 (0,0)) (by (with_reducible repeat first|apply b1_|apply b2_|apply b3_);exact BK394.out) hb);have n1_:=m_ (l5_ (by repeat (first|(with_reducible first|exact HB.out|apply l1_|apply l2_|apply l3_|refine l4_ ?_ GE394.out)|exact HB.out)) hb);clear BK394;clear HB;have BK394:=n0_;have HB:=n1_;clear n0_ n1_;(try clear hb);(try clear hb2);(try clear hk);(try clear hi);have hcz19_0 : w18.cell? ⟨gb394,0,none⟩ = some (.string a0_0):=(c_ BK394.out 0).trans rfl;have hcz19_1 : w18.cell? ⟨gb394,1,none⟩ = some (.slice A0_1 l0_1.length c0_1):=(c_ BK394.out 1).trans rfl;have hfz19_0:=f_ BK394.out 0;have hfz19_1:=f_ BK394.out 1)|((with_reducible refine gate_callee (f:=10) rfl ?_);refine goesL_ (some 15) rfl rfl Tryd.func10 (by kernel_rfl) rfl #[.agg #[.string a0_0,.slice A0_1 l0_1.length c0_1]] rfl (by (try simp only [List.map_toArray,List.map_cons,List.map_nil]);first|done|rfl|(simp only [List.length_drop,List.length_take];rfl)) ?_;(with_reducible refine (laws_toStream.calls k a0_0 _ _ l0_1 t396 t397 _ ?side1 ?side2 A8.out).mono ?_);(case side1=>repeat (first|exact (Kd.C_below HR0_1.out HB.out)|(with_reducible refine Kd.C_alloc ?_ _)|(with_reducible refine Kd.C_drewN ?_ _)|(with_reducible refine Kd.C_drew ?_)));(case side2=>exact HC0_1.out);rintro e w20 ⟨v398,rfl,ho0,hb⟩;refine ⟨_,rfl,?_⟩;have n0_:=m_ (Kd.R_lower ho0 (l6_ (by repeat (first|(with_reducible first|exact HB.out|apply l1_|apply l2_|apply l3_|refine l4_ ?_ GE394.out)|exact HB.out))));have n1_:=m_ (blk_below (g:=gb394) (o:=.cells #[.string a0_0,.slice A0_1 l0_1.length c0_1] 24 (0,0)) (by (with_reducible repeat first|apply b1_|apply b2_|apply b3_);exact BK394.out) hb);have n2_:=m_ (l5_ (by repeat (first|(with_reducible first|exact HB.out|apply l1_|apply l2_|apply l3_|refine l4_ ?_ GE394.out)|exact HB.out)) hb);clear BK394;clear HB;have HO399:=n0_;have BK394:=n1_;have HB:=n2_;clear n0_ n1_ n2_;(try clear hb);(try clear hb2);(try clear hk);(try clear hi);(try clear ho0);obtain ⟨Ao21,co21,eo21⟩:=Kd.R_slice HO399.out;subst eo21)|((with_reducible refine gate_callee (f:=17) rfl ?_);refine goesL_ (some 17) rfl rfl Tryd.func17 (by kernel_rfl) rfl #[.agg #[.string t396,.slice Ao21 t397.length co21],.int .i64 a1] rfl (by (try simp only [List.map_toArray,List.map_cons,List.map_nil]);first|done|rfl|(simp only [List.length_drop,List.length_take];rfl)) ?_;(with_reducible refine (spec_StreamBack.calls k t396 _ _ t397 a1 t400 _ ?side1 ?side2 A9.out).mono ?_);(case side1=>repeat (first|exact (Kd.R_reads' HO399.out).2.2|(with_reducible refine Kd.C_alloc ?_ _)|(with_reducible refine Kd.C_drewN ?_ _)|(with_reducible refine Kd.C_drew ?_)));(case side2=>exact (Kd.R_reads' HO399.out).2.1);rintro e w22 ⟨rfl,hb⟩;refine ⟨_,rfl,?_⟩;have n0_:=m_ (Kd.R_below (by (with_reducible repeat (first|apply Kd.R_alloc|apply Kd.R_drewN|apply Kd.R_drew));exact HO399.out) hb);have n1_:=m_ (blk_below (g:=gb394) (o:=.cells #[.string a0_0,.slice A0_1 l0_1.length c0_1] 24 (0,0)) (by (with_reducible repeat first|apply b1_|apply b2_|apply b3_);exact BK394.out) hb);have n2_:=m_ (l5_ (by repeat (first|(with_reducible first|exact HB.out|apply l1_|apply l2_|apply l3_|refine l4_ ?_ GE394.out)|exact HB.out)) hb);clear HO399;clear BK394;clear HB;have HO399:=n0_;have BK394:=n1_;have HB:=n2_;clear n0_ n1_ n2_;(try clear hb);(try clear hb2);(try clear hk);(try clear hi);have hcz23_0 : w22.cell? ⟨gb394,0,none⟩ = some (.string a0_0):=(c_ BK394.out 0).trans rfl;have hcz23_1 : w22.cell? ⟨gb394,1,none⟩ = some (.slice A0_1 l0_1.length c0_1):=(c_ BK394.out 1).trans rfl;have hfz23_0:=f_ BK394.out 0;have hfz23_1:=f_ BK394.out 1)|((with_reducible refine gate_callee (f:=10) rfl ?_);refine goesL_ (some 19) rfl rfl Tryd.func10 (by kernel_rfl) rfl #[.agg #[.string a0_0,.slice A0_1 l0_1.length c0_1]] rfl (by (try simp only [List.map_toArray,List.map_cons,List.map_nil]);first|done|rfl|(simp only [List.length_drop,List.length_take];rfl)) ?_;(with_reducible refine (laws_toStream.calls k a0_0 _ _ l0_1 t401 t402 _ ?side1 ?side2 A10.out).mono ?_);(case side1=>repeat (first|exact (Kd.C_below HR0_1.out HB.out)|(with_reducible refine Kd.C_alloc ?_ _)|(with_reducible refine Kd.C_drewN ?_ _)|(with_reducible refine Kd.C_drew ?_)));(case side2=>exact HC0_1.out);rintro e w24 ⟨v403,rfl,ho0,hb⟩;refine ⟨_,rfl,?_⟩;have n0_:=m_ (Kd.R_elder' (by (with_reducible repeat (first|apply Kd.R_alloc|apply Kd.R_drewN|apply Kd.R_drew));exact HO399.out) (Kd.R_base ho0) hb);have n1_:=m_ (Kd.R_lower (Kd.R_new' ho0 (Kd.R_lt (by (with_reducible repeat (first|apply Kd.R_alloc|apply Kd.R_drewN|apply Kd.R_drew));exact HO399.out))) (l6_ (by repeat (first|(with_reducible first|exact HB.out|apply l1_|apply l2_|apply l3_|refine l4_ ?_ GE394.out)|exact HB.out))));have n2_:=m_ (blk_below (g:=gb394) (o:=.cells #[.string a0_0,.slice A0_1 l0_1.length c0_1] 24 (0,0)) (by (with_reducible repeat first|apply b1_|apply b2_|apply b3_);exact BK394.out) hb);have n3_:=m_ (l5_ (by repeat (first|(with_reducible first|exact HB.out|apply l1_|apply l2_|apply l3_|refine l4_ ?_ GE394.out)|exact HB.out)) hb);clear HO399;clear BK394;clear HB;have HO399:=n0_;have HO404:=n1_;have BK394:=n2_;have HB:=n3_;clear n0_ n1_ n2_ n3_;(try clear hb);(try clear hb2);(try clear hk);(try clear hi);(try clear ho0))|((with_reducible refine gate_dst (N:=7) rfl ?_);refine box_event ?hg (N:=7) ?hd (cs:=#[.string (⟨#[]⟩ : ByteArray),.slice none 0 0]) (t:=29) ?hr ?_;(case hd=>rfl);(case hg=>rfl);(case hr=>first|(go_simp;done)|(go_simp;rfl));intro gb405 hg w25 hbox hb;have n0_:=m_ (Kd.R_below (by (with_reducible repeat (first|apply Kd.R_alloc|apply Kd.R_drewN|apply Kd.R_drew));exact HO399.out) hb);have n1_:=m_ (Kd.R_below (by (with_reducible repeat (first|apply Kd.R_alloc|apply Kd.R_drewN|apply Kd.R_drew));exact HO404.out) hb);have n2_:=m_ (blk_below (g:=gb394) (o:=.cells #[.string a0_0,.slice A0_1 l0_1.length c0_1] 24 (0,0)) (by (with_reducible repeat first|apply b1_|apply b2_|apply b3_);exact BK394.out) hb);have n3_:=m_ (l5_ (by repeat (first|(with_reducible first|exact HB.out|apply l1_|apply l2_|apply l3_|refine l4_ ?_ GE394.out)|exact HB.out)) hb);have n4_:=m_ (hbox);have n5_:=m_ ((by rw [hg];exact (l6_ (by repeat (first|(with_reducible first|exact HB.out|apply l1_|apply l2_|apply l3_|refine l4_ ?_ GE394.out)|exact HB.out))) : w.heap.size ≤ gb405));have n6_:=n5_;have n7_:=m_ ((by rw [hg];exact Nat.ne_of_lt (blk_lt (g:=gb394) (o:=.cells #[.string a0_0,.slice A0_1 l0_1.length c0_1] 24 (0,0)) (by (with_reducible repeat first|apply b1_|apply b2_|apply b3_);exact BK394.out)) : gb394 ≠ gb405));have n8_:=m_ ((by rw [hg];exact Nat.ne_of_gt (blk_lt (g:=gb394) (o:=.cells #[.string a0_0,.slice A0_1 l0_1.length c0_1] 24 (0,0)) (by (with_reducible repeat first|apply b1_|apply b2_|apply b3_);exact BK394.out)) : gb405 ≠ gb394));clear HO399;clear HO404;clear BK394;clear HB;have HO399:=n0_;have HO404:=n1_;have BK394:=n2_;have HB:=n3_;have BK405:=n4_;have GW405:=n5_;have GE405:=n6_;have NB394_405:=n7_;have NB405_394:=n8_;clear n0_ n1_ n2_ n3_ n4_ n5_ n6_ n7_ n8_;clear hb hbox hg;have hnb26:=NB405_394.out;have hnc26:=NB394_405.out;have hcz27_0 : w25.cell? ⟨gb405,0,none⟩ = some (.string (⟨#[]⟩ : ByteArray)):=(c_ BK405.out 0).trans rfl;have hcz27_1 : w25.cell? ⟨gb405,1,none⟩ = some (.slice none 0 0):=(c_ BK405.out 1).trans rfl;have hfz27_0:=f_ BK405.out 0;have hfz27_1:=f_ BK405.out 1;obtain ⟨Ao28,co28,eo28⟩:=Kd.R_slice HO404.out;subst eo28)|((with_reducible refine gate_callee (f:=18) rfl ?_);refine goesL_ (some 22) rfl rfl Tryd.func18 (by kernel_rfl) rfl #[.agg #[.string t401,.slice Ao28 t402.length co28],.int .i64 a1] rfl (by (try simp only [List.map_toArray,List.map_cons,List.map_nil]);first|done|rfl|(simp only [List.length_drop,List.length_take];rfl)) ?_;(with_reducible refine (impl_StreamBack.calls k t401 _ _ t402 a1 t406 _ ?side1 ?side2 ?side3 A11.out).mono ?_);(case side1=>refine (Kd.R_reads' (e:=41) (base:=w.heap.size) (ok:=fun k_=>(True ∧ some k_ ≠ (.slice Ao21 t397.length co21 : Value).ownBlock)) (n:=t402.length) (c:=co28) ?_).2.2;exact (by (with_reducible repeat (first|apply Kd.R_alloc|apply Kd.R_drewN|apply Kd.R_drew));exact (Kd.R_mono (Kd.R_far (p:=⟨gb405,1,none⟩) (Kd.R_far (p:=⟨gb405,0,none⟩) (Kd.R_types HO404.out BK405.out (by decide)) (fun _ hk=>hk.2) (.string t401)) (fun _ hk=>hk.2) (.slice Ao28 t402.length co28)) (fun _ h_=>h_.1))));(case side2=>exact (Kd.R_reads' HO404.out).2.1);(case side3=>first|(with_reducible exact HG.out)|exact GV_below HG.out (by repeat (first|(with_reducible first|exact HB.out|apply l1_|apply l2_|apply l3_|refine l4_ ?_ GE394.out|refine l4_ ?_ GE405.out)|exact HB.out)));rintro e w29 ⟨rfl,hb⟩;refine ⟨_,rfl,?_⟩;have n0_:=m_ (Kd.R_below (by (with_reducible repeat (first|apply Kd.R_alloc|apply Kd.R_drewN|apply Kd.R_drew));exact (Kd.R_mono (Kd.R_far (p:=⟨gb405,1,none⟩) (Kd.R_far (p:=⟨gb405,0,none⟩) (Kd.R_types HO399.out BK405.out (by decide)) (fun _ hk=>hk.2) (.string t401)) (fun _ hk=>hk.2) (.slice Ao28 t402.length co28)) (fun _ h_=>h_.1))) hb);have n1_:=m_ (Kd.R_below (by (with_reducible repeat (first|apply Kd.R_alloc|apply Kd.R_drewN|apply Kd.R_drew));exact (Kd.R_mono (Kd.R_far (p:=⟨gb405,1,none⟩) (Kd.R_far (p:=⟨gb405,0,none⟩) (Kd.R_types HO404.out BK405.out (by decide)) (fun _ hk=>hk.2) (.string t401)) (fun _ hk=>hk.2) (.slice Ao28 t402.length co28)) (fun _ h_=>h_.1))) hb);have n2_:=m_ (blk_below (g:=gb394) (o:=.cells #[.string a0_0,.slice A0_1 l0_1.length c0_1] 24 (0,0)) (by (with_reducible repeat first|apply b1_|apply b2_|apply b3_);refine b4_ ?_ NB394_405.out _;(with_reducible repeat first|apply b1_|apply b2_|apply b3_);refine b4_ ?_ NB394_405.out _;(with_reducible repeat first|apply b1_|apply b2_|apply b3_);exact BK394.out) hb);have n3_:=m_ (blk_below (g:=gb405) (o:=.cells #[.string t401,.slice Ao28 t402.length co28] 29 (0,0)) (by (with_reducible repeat first|apply b1_|apply b2_|apply b3_);refine blk_put (cs:=#[.string t401,.slice none 0 0]) ?_ 1 _ rfl;(with_reducible repeat first|apply b1_|apply b2_|apply b3_);refine blk_put (cs:=#[.string (⟨#[]⟩ : ByteArray),.slice none 0 0]) ?_ 0 _ rfl;(with_reducible repeat first|apply b1_|apply b2_|apply b3_);exact BK405.out) hb);have n4_:=m_ (l5_ (by repeat (first|(with_reducible first|exact HB.out|apply l1_|apply l2_|apply l3_|refine l4_ ?_ GE394.out|refine l4_ ?_ GE405.out)|exact HB.out)) hb);clear HO399;clear HO404;clear BK394;clear BK405;clear HB;have HO399:=n0_;have HO404:=n1_;have BK394:=n2_;have BK405:=n3_;have HB:=n4_;clear n0_ n1_ n2_ n3_ n4_;(try clear hb);(try clear hb2);(try clear hk);(try clear hi)))
    have n0_:=m_ (Kd.R_drew HO399.out)
    have n1_:=m_ (Kd.R_drew HO404.out)
    have n2_:=m_ (b2_ BK394.out)
    have n3_:=m_ (b2_ BK405.out)
    have n4_:=m_ (l3_ HB.out)
    clear HO399
    clear HO404
    clear BK394
    clear BK405
    clear HB
    have HO399:=n0_
    have HO404:=n1_
    have BK394:=n2_
    have BK405:=n3_
    have HB:=n4_
    clear n0_ n1_ n2_ n3_ n4_
    refine start_ (n:=5) (S:=fun w'=>w'.cell? ⟨gb405,0,none⟩ = some (.string t401) ∧ w'.cell? ⟨gb405,1,none⟩ = some (.slice Ao28 t402.length co28) ∧ w'.cell? ⟨gb394,0,none⟩ = some (.string a0_0) ∧ w'.cell? ⟨gb394,1,none⟩ = some (.slice A0_1 l0_1.length c0_1)) (ds:=[]) #[false,false,false,false,false] (by kernel_rfl) rfl rfl ⟨(c_ BK405.out 0).trans rfl,(c_ BK405.out 1).trans rfl,(c_ BK394.out 0).trans rfl,(c_ BK394.out 1).trans rfl⟩ (fun hHeld=>?_)
    generalize w29.drew = w30 at HO399 HO404 BK394 BK405 HB hHeld ⊢
    refine take_ (i:=0) (N:=some 26) (v:=?_) (a':=?_) #[true,false,false,false,false] rfl rfl (by kernel_rfl) (fun _ _ _ h=>h) (Or.inl ⟨by rfl,?_⟩) hHeld ?_ ?_
    rotate_left
    ·rintro w' ⟨s0,s1,s2,s3⟩
     go_simp
     with_reducible rfl
    rotate_left
    ·simp only [Act.put,s1_,s2_,s3_,i64_w,i32_w]
     rfl
    refine take_ (i:=1) (N:=some 27) (v:=?_) (a':=?_) #[true,true,false,false,false] rfl rfl (by kernel_rfl) (fun _ _ _ h=>h) (Or.inl ⟨by rfl,?_⟩) hHeld ?_ ?_
    rotate_left
    ·rintro w' ⟨s0,s1,s2,s3⟩
     go_simp
     with_reducible rfl
    rotate_left
    ·simp only [Act.put,s1_,s2_,s3_,i64_w,i32_w]
     rfl
    refine one_ (i:=2) (N:=some 28) #[true,true,true,false,false] rfl rfl (by kernel_rfl) (by decide) (fun K hK=>?_)
    refine goes_ Tryd.func10 (by kernel_rfl) rfl #[.agg #[.string a0_0,.slice A0_1 l0_1.length c0_1]] (by rfl) rfl rfl (by (try simp only [List.map_toArray,List.map_cons,List.map_nil]);first|done|rfl|(simp only [List.length_drop,List.length_take];rfl)) ?_
    with_reducible refine (laws_toStream.calls k a0_0 _ _ l0_1 t407 t408 _ ?side1 ?side2 A13.out).mono ?_
    (case side1=>repeat (first|exact (Kd.C_below HR0_1.out HB.out)|(with_reducible refine Kd.C_alloc ?_ _)|(with_reducible refine Kd.C_drewN ?_ _)|(with_reducible refine Kd.C_drew ?_)))
    (case side2=>exact HC0_1.out)
    rintro e w31 ⟨v409,rfl,ho0,hb⟩
    refine ⟨_,rfl,?_⟩
    have n0_:=m_ (Kd.R_elder' (by (with_reducible repeat (first|apply Kd.R_alloc|apply Kd.R_drewN|apply Kd.R_drew));exact HO399.out) (Kd.R_base ho0) hb)
    have n1_:=m_ (Kd.R_elder' (by (with_reducible repeat (first|apply Kd.R_alloc|apply Kd.R_drewN|apply Kd.R_drew));exact HO404.out) (Kd.R_base ho0) hb)
    have n2_:=m_ (Kd.R_lower (Kd.R_new' (Kd.R_new' ho0 (Kd.R_lt (by (with_reducible repeat (first|apply Kd.R_alloc|apply Kd.R_drewN|apply Kd.R_drew));exact HO399.out))) (Kd.R_lt (by (with_reducible repeat (first|apply Kd.R_alloc|apply Kd.R_drewN|apply Kd.R_drew));exact HO404.out))) (l6_ (by repeat (first|(with_reducible first|exact HB.out|apply l1_|apply l2_|apply l3_|refine l4_ ?_ GE394.out|refine l4_ ?_ GE405.out)|exact HB.out))))
    have n3_:=m_ (blk_below (g:=gb394) (o:=.cells #[.string a0_0,.slice A0_1 l0_1.length c0_1] 24 (0,0)) (by (with_reducible repeat first|apply b1_|apply b2_|apply b3_);exact BK394.out) hb)
    have n4_:=m_ (blk_below (g:=gb405) (o:=.cells #[.string t401,.slice Ao28 t402.length co28] 29 (0,0)) (by (with_reducible repeat first|apply b1_|apply b2_|apply b3_);exact BK405.out) hb)
    have n5_:=m_ (l5_ (by repeat (first|(with_reducible first|exact HB.out|apply l1_|apply l2_|apply l3_|refine l4_ ?_ GE394.out|refine l4_ ?_ GE405.out)|exact HB.out)) hb)
    clear HO399
    clear HO404
    clear BK394
    clear BK405
    clear HB
    have HO399:=n0_
    have HO404:=n1_
    have HO410:=n2_
    have BK394:=n3_
    have BK405:=n4_
    have HB:=n5_
    clear n0_ n1_ n2_ n3_ n4_ n5_
    (try clear hb)
    (try clear hb2)
    (try clear hk)
    (try clear hi)
    (try clear ho0)
    obtain ⟨Ao32,co32,eo32⟩:=Kd.R_slice HO410.out
    (first|subst eo32|(injection eo32 with f1_ f2_ f3_;have f4_:=f1_.symm;have f5_:=f3_.symm;clear f1_ f2_ f3_;subst f4_;subst f5_))
    refine hK.out _ _ ⟨(c_ BK405.out 0).trans rfl,(c_ BK405.out 1).trans rfl,(c_ BK394.out 0).trans rfl,(c_ BK394.out 1).trans rfl⟩ (fun hHeld=>?_)
    clear hK K
    refine norm_ (a':=?_) ?_ ?_
    rotate_left
    ·show Act.put _ (some 28) _ = _
     simp only [Act.put,s1_,s2_,s3_,i64_w,i32_w]
     rfl
    refine one_ (i:=3) (N:=some 29) #[true,true,true,true,false] rfl rfl (by kernel_rfl) (by decide) (fun K hK=>?_)
    refine goes_ Tryd.func12 (by kernel_rfl) rfl #[.agg #[.string t401,.slice Ao28 t402.length co28],.agg #[.string t407,.slice Ao32 t408.length co32]] (by rfl) rfl rfl (by (try simp only [List.map_toArray,List.map_cons,List.map_nil]);first|done|rfl|(simp only [List.length_drop,List.length_take];rfl)) ?_
    with_reducible refine (laws_eqStream.calls k t401 _ _ t402 t407 _ _ t408 true _ ?side1 ?side2 ?side3 ?side4 A14.out).mono ?_
    (case side1=>repeat (first|exact (Kd.R_reads' HO404.out).2.2|(with_reducible refine Kd.C_alloc ?_ _)|(with_reducible refine Kd.C_drewN ?_ _)|(with_reducible refine Kd.C_drew ?_)))
    (case side2=>exact (Kd.R_reads' HO404.out).2.1)
    (case side3=>repeat (first|exact (Kd.R_reads' HO410.out).2.2|(with_reducible refine Kd.C_alloc ?_ _)|(with_reducible refine Kd.C_drewN ?_ _)|(with_reducible refine Kd.C_drew ?_)))
    (case side4=>exact (Kd.R_reads' HO410.out).2.1)
    rintro e w33 ⟨rfl,hb⟩
    refine ⟨_,rfl,?_⟩
    have n0_:=m_ (Kd.R_below (by (with_reducible repeat (first|apply Kd.R_alloc|apply Kd.R_drewN|apply Kd.R_drew));exact HO399.out) hb)
    have n1_:=m_ (Kd.R_below (by (with_reducible repeat (first|apply Kd.R_alloc|apply Kd.R_drewN|apply Kd.R_drew));exact HO404.out) hb)
    have n2_:=m_ (Kd.R_below (by (with_reducible repeat (first|apply Kd.R_alloc|apply Kd.R_drewN|apply Kd.R_drew));exact HO410.out) hb)
    have n3_:=m_ (blk_below (g:=gb394) (o:=.cells #[.string a0_0,.slice A0_1 l0_1.length c0_1] 24 (0,0)) (by (with_reducible repeat first|apply b1_|apply b2_|apply b3_);exact BK394.out) hb)
    have n4_:=m_ (blk_below (g:=gb405) (o:=.cells #[.string t401,.slice Ao28 t402.length co28] 29 (0,0)) (by (with_reducible repeat first|apply b1_|apply b2_|apply b3_);exact BK405.out) hb)
    have n5_:=m_ (l5_ (by repeat (first|(with_reducible first|exact HB.out|apply l1_|apply l2_|apply l3_|refine l4_ ?_ GE394.out|refine l4_ ?_ GE405.out)|exact HB.out)) hb)
    clear HO399
    clear HO404
    clear HO410
    clear BK394
    clear BK405
    clear HB
    have HO399:=n0_
    have HO404:=n1_
    have HO410:=n2_
    have BK394:=n3_
    have BK405:=n4_
    have HB:=n5_
    clear n0_ n1_ n2_ n3_ n4_ n5_
    (try clear hb)
    (try clear hb2)
    (try clear hk)
    (try clear hi)
    refine hK.out _ _ ⟨(c_ BK405.out 0).trans rfl,(c_ BK405.out 1).trans rfl,(c_ BK394.out 0).trans rfl,(c_ BK394.out 1).trans rfl⟩ (fun hHeld=>?_)
    clear hK K
    refine norm_ (a':=?_) ?_ ?_
    rotate_left
    ·show Act.put _ (some 29) _ = _
     simp only [Act.put,s1_,s2_,s3_,i64_w,i32_w]
     rfl
    refine pure_ (i:=4) (N:=some 30) (v:=?_) (a':=?_) #[true,true,true,true,true] rfl rfl (by kernel_rfl) (fun _ _ _ h=>h) (Or.inl ⟨by rfl,?_⟩) ?_ ?_
    rotate_left
    ·intro w'
     go_simp
     with_reducible rfl
    rotate_left
    ·simp only [Act.put,s1_,s2_,s3_,i64_w,i32_w]
     rfl
    refine done_ (by kernel_rfl) ?_
    try go_wp2
    go_ret
    exact ⟨by first|rfl|(simp [e1_,e2_] <;> rfl)|(simp [*,e1_,e2_] <;> rfl)|(simp [e1_,e2_,pk_empty1,pk_empty2];done)|(simp [*,e1_,e2_,pk_empty1,pk_empty2];done),by repeat (first|(with_reducible first|exact HB.out|apply l1_|apply l2_|apply l3_|refine l4_ ?_ GE394.out|refine l4_ ?_ GE405.out)|exact HB.out)⟩
   ·replace c15:=Bool.eq_false_iff.mpr c15
    subst c15
    have H1 : (some false) = some r:=by rw [if_neg (show ¬ (false = true) by decide)] at H;exact H
    clear H
    have H:=H1
    clear H1
    obtain rfl:=Option.some.inj H
    go_enter Tryd.func6,Tryd.ntmps6
    try go_wp2_with (first|((with_reducible refine gate_dst (N:=2) rfl ?_);refine box_event ?hg (N:=2) ?hd (cs:=#[.string a0_0,.slice A0_1 l0_1.length c0_1]) (t:=24) ?hr ?_;(case hd=>rfl);(case hg=>rfl);(case hr=>first|(go_simp;done)|(go_simp;rfl));intro gb394 hg w34 hbox hb;have n0_:=m_ (l5_ (by repeat (first|(with_reducible first|exact HB.out|apply l1_|apply l2_|apply l3_)|exact HB.out)) hb);have n1_:=m_ (hbox);have n2_:=m_ ((by rw [hg];exact (l6_ (by repeat (first|(with_reducible first|exact HB.out|apply l1_|apply l2_|apply l3_)|exact HB.out))) : w.heap.size ≤ gb394));have n3_:=m_ ((by rw [hg];exact (l6_ (by repeat (first|(with_reducible first|exact HB.out|apply l1_|apply l2_|apply l3_)|exact HB.out))) : w.heap.size ≤ gb394));clear HB;have HB:=n0_;have BK394:=n1_;have GW394:=n2_;have GE394:=n3_;clear n0_ n1_ n2_ n3_;clear hb hbox hg;have hcz35_0 : w34.cell? ⟨gb394,0,none⟩ = some (.string a0_0):=(c_ BK394.out 0).trans rfl;have hcz35_1 : w34.cell? ⟨gb394,1,none⟩ = some (.slice A0_1 l0_1.length c0_1):=(c_ BK394.out 1).trans rfl;have hfz35_0:=f_ BK394.out 0;have hfz35_1:=f_ BK394.out 1)|((with_reducible refine gate_callee (f:=8) rfl ?_);refine goesL_ (some 11) rfl rfl Tryd.func8 (by kernel_rfl) rfl #[.agg #[.string a0_0,.slice A0_1 l0_1.length c0_1],.int .i64 1048576] rfl (by (try simp only [List.map_toArray,List.map_cons,List.map_nil]);first|done|rfl|(simp only [List.length_drop,List.length_take];rfl)) ?_;(with_reducible refine (laws_szStream.calls k a0_0 _ _ l0_1 1048576 t395 _ ?side1 ?side2 A3.out).mono ?_);(case side1=>repeat (first|exact (Kd.C_below HR0_1.out HB.out)|(with_reducible refine Kd.C_alloc ?_ _)|(with_reducible refine Kd.C_drewN ?_ _)|(with_reducible refine Kd.C_drew ?_)));(case side2=>exact HC0_1.out);rintro e w36 ⟨rfl,hb⟩;refine ⟨_,rfl,?_⟩;have n0_:=m_ (blk_below (g:=gb394) (o:=.cells #[.string a0_0,.slice A0_1 l0_1.length c0_1] 24 (0,0)) (by (with_reducible repeat first|apply b1_|apply b2_|apply b3_);exact BK394.out) hb);have n1_:=m_ (l5_ (by repeat (first|(with_reducible first|exact HB.out|apply l1_|apply l2_|apply l3_|refine l4_ ?_ GE394.out)|exact HB.out)) hb);clear BK394;clear HB;have BK394:=n0_;have HB:=n1_;clear n0_ n1_;(try clear hb);(try clear hb2);(try clear hk);(try clear hi);have hcz37_0 : w36.cell? ⟨gb394,0,none⟩ = some (.string a0_0):=(c_ BK394.out 0).trans rfl;have hcz37_1 : w36.cell? ⟨gb394,1,none⟩ = some (.slice A0_1 l0_1.length c0_1):=(c_ BK394.out 1).trans rfl;have hfz37_0:=f_ BK394.out 0;have hfz37_1:=f_ BK394.out 1)|((with_reducible refine gate_callee (f:=10) rfl ?_);refine goesL_ (some 15) rfl rfl Tryd.func10 (by kernel_rfl) rfl #[.agg #[.string a0_0,.slice A0_1 l0_1.length c0_1]] rfl (by (try simp only [List.map_toArray,List.map_cons,List.map_nil]);first|done|rfl|(simp only [List.length_drop,List.length_take];rfl)) ?_;(with_reducible refine (laws_toStream.calls k a0_0 _ _ l0_1 t396 t397 _ ?side1 ?side2 A8.out).mono ?_);(case side1=>repeat (first|exact (Kd.C_below HR0_1.out HB.out)|(with_reducible refine Kd.C_alloc ?_ _)|(with_reducible refine Kd.C_drewN ?_ _)|(with_reducible refine Kd.C_drew ?_)));(case side2=>exact HC0_1.out);rintro e w38 ⟨v398,rfl,ho0,hb⟩;refine ⟨_,rfl,?_⟩;have n0_:=m_ (Kd.R_lower ho0 (l6_ (by repeat (first|(with_reducible first|exact HB.out|apply l1_|apply l2_|apply l3_|refine l4_ ?_ GE394.out)|exact HB.out))));have n1_:=m_ (blk_below (g:=gb394) (o:=.cells #[.string a0_0,.slice A0_1 l0_1.length c0_1] 24 (0,0)) (by (with_reducible repeat first|apply b1_|apply b2_|apply b3_);exact BK394.out) hb);have n2_:=m_ (l5_ (by repeat (first|(with_reducible first|exact HB.out|apply l1_|apply l2_|apply l3_|refine l4_ ?_ GE394.out)|exact HB.out)) hb);clear BK394;clear HB;have HO399:=n0_;have BK394:=n1_;have HB:=n2_;clear n0_ n1_ n2_;(try clear hb);(try clear hb2);(try clear hk);(try clear hi);(try clear ho0);obtain ⟨Ao39,co39,eo39⟩:=Kd.R_slice HO399.out;subst eo39)|((with_reducible refine gate_callee (f:=17) rfl ?_);refine goesL_ (some 17) rfl rfl Tryd.func17 (by kernel_rfl) rfl #[.agg #[.string t396,.slice Ao39 t397.length co39],.int .i64 a1] rfl (by (try simp only [List.map_toArray,List.map_cons,List.map_nil]);first|done|rfl|(simp only [List.length_drop,List.length_take];rfl)) ?_;(with_reducible refine (spec_StreamBack.calls k t396 _ _ t397 a1 t400 _ ?side1 ?side2 A9.out).mono ?_);(case side1=>repeat (first|exact (Kd.R_reads' HO399.out).2.2|(with_reducible refine Kd.C_alloc ?_ _)|(with_reducible refine Kd.C_drewN ?_ _)|(with_reducible refine Kd.C_drew ?_)));(case side2=>exact (Kd.R_reads' HO399.out).2.1);rintro e w40 ⟨rfl,hb⟩;refine ⟨_,rfl,?_⟩;have n0_:=m_ (Kd.R_below (by (with_reducible repeat (first|apply Kd.R_alloc|apply Kd.R_drewN|apply Kd.R_drew));exact HO399.out) hb);have n1_:=m_ (blk_below (g:=gb394) (o:=.cells #[.string a0_0,.slice A0_1 l0_1.length c0_1] 24 (0,0)) (by (with_reducible repeat first|apply b1_|apply b2_|apply b3_);exact BK394.out) hb);have n2_:=m_ (l5_ (by repeat (first|(with_reducible first|exact HB.out|apply l1_|apply l2_|apply l3_|refine l4_ ?_ GE394.out)|exact HB.out)) hb);clear HO399;clear BK394;clear HB;have HO399:=n0_;have BK394:=n1_;have HB:=n2_;clear n0_ n1_ n2_;(try clear hb);(try clear hb2);(try clear hk);(try clear hi);have hcz41_0 : w40.cell? ⟨gb394,0,none⟩ = some (.string a0_0):=(c_ BK394.out 0).trans rfl;have hcz41_1 : w40.cell? ⟨gb394,1,none⟩ = some (.slice A0_1 l0_1.length c0_1):=(c_ BK394.out 1).trans rfl;have hfz41_0:=f_ BK394.out 0;have hfz41_1:=f_ BK394.out 1)|((with_reducible refine gate_callee (f:=10) rfl ?_);refine goesL_ (some 19) rfl rfl Tryd.func10 (by kernel_rfl) rfl #[.agg #[.string a0_0,.slice A0_1 l0_1.length c0_1]] rfl (by (try simp only [List.map_toArray,List.map_cons,List.map_nil]);first|done|rfl|(simp only [List.length_drop,List.length_take];rfl)) ?_;(with_reducible refine (laws_toStream.calls k a0_0 _ _ l0_1 t401 t402 _ ?side1 ?side2 A10.out).mono ?_);(case side1=>repeat (first|exact (Kd.C_below HR0_1.out HB.out)|(with_reducible refine Kd.C_alloc ?_ _)|(with_reducible refine Kd.C_drewN ?_ _)|(with_reducible refine Kd.C_drew ?_)));(case side2=>exact HC0_1.out);rintro e w42 ⟨v403,rfl,ho0,hb⟩;refine ⟨_,rfl,?_⟩;have n0_:=m_ (Kd.R_elder' (by (with_reducible repeat (first|apply Kd.R_alloc|apply Kd.R_drewN|apply Kd.R_drew));exact HO399.out) (Kd.R_base ho0) hb);have n1_:=m_ (Kd.R_lower (Kd.R_new' ho0 (Kd.R_lt (by (with_reducible repeat (first|apply Kd.R_alloc|apply Kd.R_drewN|apply Kd.R_drew));exact HO399.out))) (l6_ (by repeat (first|(with_reducible first|exact HB.out|apply l1_|apply l2_|apply l3_|refine l4_ ?_ GE394.out)|exact HB.out))));have n2_:=m_ (blk_below (g:=gb394) (o:=.cells #[.string a0_0,.slice A0_1 l0_1.length c0_1] 24 (0,0)) (by (with_reducible repeat first|apply b1_|apply b2_|apply b3_);exact BK394.out) hb);have n3_:=m_ (l5_ (by repeat (first|(with_reducible first|exact HB.out|apply l1_|apply l2_|apply l3_|refine l4_ ?_ GE394.out)|exact HB.out)) hb);clear HO399;clear BK394;clear HB;have HO399:=n0_;have HO404:=n1_;have BK394:=n2_;have HB:=n3_;clear n0_ n1_ n2_ n3_;(try clear hb);(try clear hb2);(try clear hk);(try clear hi);(try clear ho0))|((with_reducible refine gate_dst (N:=7) rfl ?_);refine box_event ?hg (N:=7) ?hd (cs:=#[.string (⟨#[]⟩ : ByteArray),.slice none 0 0]) (t:=29) ?hr ?_;(case hd=>rfl);(case hg=>rfl);(case hr=>first|(go_simp;done)|(go_simp;rfl));intro gb405 hg w43 hbox hb;have n0_:=m_ (Kd.R_below (by (with_reducible repeat (first|apply Kd.R_alloc|apply Kd.R_drewN|apply Kd.R_drew));exact HO399.out) hb);have n1_:=m_ (Kd.R_below (by (with_reducible repeat (first|apply Kd.R_alloc|apply Kd.R_drewN|apply Kd.R_drew));exact HO404.out) hb);have n2_:=m_ (blk_below (g:=gb394) (o:=.cells #[.string a0_0,.slice A0_1 l0_1.length c0_1] 24 (0,0)) (by (with_reducible repeat first|apply b1_|apply b2_|apply b3_);exact BK394.out) hb);have n3_:=m_ (l5_ (by repeat (first|(with_reducible first|exact HB.out|apply l1_|apply l2_|apply l3_|refine l4_ ?_ GE394.out)|exact HB.out)) hb);have n4_:=m_ (hbox);have n5_:=m_ ((by rw [hg];exact (l6_ (by repeat (first|(with_reducible first|exact HB.out|apply l1_|apply l2_|apply l3_|refine l4_ ?_ GE394.out)|exact HB.out))) : w.heap.size ≤ gb405));have n6_:=n5_;have n7_:=m_ ((by rw [hg];exact Nat.ne_of_lt (blk_lt (g:=gb394) (o:=.cells #[.string a0_0,.slice A0_1 l0_1.length c0_1] 24 (0,0)) (by (with_reducible repeat first|apply b1_|apply b2_|apply b3_);exact BK394.out)) : gb394 ≠ gb405));have n8_:=m_ ((by rw [hg];exact Nat.ne_of_gt (blk_lt (g:=gb394) (o:=.cells #[.string a0_0,.slice A0_1 l0_1.length c0_1] 24 (0,0)) (by (with_reducible repeat first|apply b1_|apply b2_|apply b3_);exact BK394.out)) : gb405 ≠ gb394));clear HO399;clear HO404;clear BK394;clear HB;have HO399:=n0_;have HO404:=n1_;have BK394:=n2_;have HB:=n3_;have BK405:=n4_;have GW405:=n5_;have GE405:=n6_;have NB394_405:=n7_;have NB405_394:=n8_;clear n0_ n1_ n2_ n3_ n4_ n5_ n6_ n7_ n8_;clear hb hbox hg;have hnb44:=NB405_394.out;have hnc44:=NB394_405.out;have hcz45_0 : w43.cell? ⟨gb405,0,none⟩ = some (.string (⟨#[]⟩ : ByteArray)):=(c_ BK405.out 0).trans rfl;have hcz45_1 : w43.cell? ⟨gb405,1,none⟩ = some (.slice none 0 0):=(c_ BK405.out 1).trans rfl;have hfz45_0:=f_ BK405.out 0;have hfz45_1:=f_ BK405.out 1;obtain ⟨Ao46,co46,eo46⟩:=Kd.R_slice HO404.out;subst eo46)|((with_reducible refine gate_callee (f:=18) rfl ?_);refine goesL_ (some 22) rfl rfl Tryd.func18 (by kernel_rfl) rfl #[.agg #[.string t401,.slice Ao46 t402.length co46],.int .i64 a1] rfl (by (try simp only [List.map_toArray,List.map_cons,List.map_nil]);first|done|rfl|(simp only [List.length_drop,List.length_take];rfl)) ?_;(with_reducible refine (impl_StreamBack.calls k t401 _ _ t402 a1 t406 _ ?side1 ?side2 ?side3 A11.out).mono ?_);(case side1=>refine (Kd.R_reads' (e:=41) (base:=w.heap.size) (ok:=fun k_=>(True ∧ some k_ ≠ (.slice Ao39 t397.length co39 : Value).ownBlock)) (n:=t402.length) (c:=co46) ?_).2.2;exact (by (with_reducible repeat (first|apply Kd.R_alloc|apply Kd.R_drewN|apply Kd.R_drew));exact (Kd.R_mono (Kd.R_far (p:=⟨gb405,1,none⟩) (Kd.R_far (p:=⟨gb405,0,none⟩) (Kd.R_types HO404.out BK405.out (by decide)) (fun _ hk=>hk.2) (.string t401)) (fun _ hk=>hk.2) (.slice Ao46 t402.length co46)) (fun _ h_=>h_.1))));(case side2=>exact (Kd.R_reads' HO404.out).2.1);(case side3=>first|(with_reducible exact HG.out)|exact GV_below HG.out (by repeat (first|(with_reducible first|exact HB.out|apply l1_|apply l2_|apply l3_|refine l4_ ?_ GE394.out|refine l4_ ?_ GE405.out)|exact HB.out)));rintro e w47 ⟨rfl,hb⟩;refine ⟨_,rfl,?_⟩;have n0_:=m_ (Kd.R_below (by (with_reducible repeat (first|apply Kd.R_alloc|apply Kd.R_drewN|apply Kd.R_drew));exact (Kd.R_mono (Kd.R_far (p:=⟨gb405,1,none⟩) (Kd.R_far (p:=⟨gb405,0,none⟩) (Kd.R_types HO399.out BK405.out (by decide)) (fun _ hk=>hk.2) (.string t401)) (fun _ hk=>hk.2) (.slice Ao46 t402.length co46)) (fun _ h_=>h_.1))) hb);have n1_:=m_ (Kd.R_below (by (with_reducible repeat (first|apply Kd.R_alloc|apply Kd.R_drewN|apply Kd.R_drew));exact (Kd.R_mono (Kd.R_far (p:=⟨gb405,1,none⟩) (Kd.R_far (p:=⟨gb405,0,none⟩) (Kd.R_types HO404.out BK405.out (by decide)) (fun _ hk=>hk.2) (.string t401)) (fun _ hk=>hk.2) (.slice Ao46 t402.length co46)) (fun _ h_=>h_.1))) hb);have n2_:=m_ (blk_below (g:=gb394) (o:=.cells #[.string a0_0,.slice A0_1 l0_1.length c0_1] 24 (0,0)) (by (with_reducible repeat first|apply b1_|apply b2_|apply b3_);refine b4_ ?_ NB394_405.out _;(with_reducible repeat first|apply b1_|apply b2_|apply b3_);refine b4_ ?_ NB394_405.out _;(with_reducible repeat first|apply b1_|apply b2_|apply b3_);exact BK394.out) hb);have n3_:=m_ (blk_below (g:=gb405) (o:=.cells #[.string t401,.slice Ao46 t402.length co46] 29 (0,0)) (by (with_reducible repeat first|apply b1_|apply b2_|apply b3_);refine blk_put (cs:=#[.string t401,.slice none 0 0]) ?_ 1 _ rfl;(with_reducible repeat first|apply b1_|apply b2_|apply b3_);refine blk_put (cs:=#[.string (⟨#[]⟩ : ByteArray),.slice none 0 0]) ?_ 0 _ rfl;(with_reducible repeat first|apply b1_|apply b2_|apply b3_);exact BK405.out) hb);have n4_:=m_ (l5_ (by repeat (first|(with_reducible first|exact HB.out|apply l1_|apply l2_|apply l3_|refine l4_ ?_ GE394.out|refine l4_ ?_ GE405.out)|exact HB.out)) hb);clear HO399;clear HO404;clear BK394;clear BK405;clear HB;have HO399:=n0_;have HO404:=n1_;have BK394:=n2_;have BK405:=n3_;have HB:=n4_;clear n0_ n1_ n2_ n3_ n4_;(try clear hb);(try clear hb2);(try clear hk);(try clear hi)))
    have n0_:=m_ (Kd.R_drew HO399.out)
    have n1_:=m_ (Kd.R_drew HO404.out)
    have n2_:=m_ (b2_ BK394.out)
    have n3_:=m_ (b2_ BK405.out)
    have n4_:=m_ (l3_ HB.out)
    clear HO399
    clear HO404
    clear BK394
    clear BK405
    clear HB
    have HO399:=n0_
    have HO404:=n1_
    have BK394:=n2_
    have BK405:=n3_
    have HB:=n4_
    clear n0_ n1_ n2_ n3_ n4_
    refine start_ (n:=5) (S:=fun w'=>w'.cell? ⟨gb405,0,none⟩ = some (.string t401) ∧ w'.cell? ⟨gb405,1,none⟩ = some (.slice Ao46 t402.length co46) ∧ w'.cell? ⟨gb394,0,none⟩ = some (.string a0_0) ∧ w'.cell? ⟨gb394,1,none⟩ = some (.slice A0_1 l0_1.length c0_1)) (ds:=[]) #[false,false,false,false,false] (by kernel_rfl) rfl rfl ⟨(c_ BK405.out 0).trans rfl,(c_ BK405.out 1).trans rfl,(c_ BK394.out 0).trans rfl,(c_ BK394.out 1).trans rfl⟩ (fun hHeld=>?_)
    generalize w47.drew = w48 at HO399 HO404 BK394 BK405 HB hHeld ⊢
    refine take_ (i:=0) (N:=some 26) (v:=?_) (a':=?_) #[true,false,false,false,false] rfl rfl (by kernel_rfl) (fun _ _ _ h=>h) (Or.inl ⟨by rfl,?_⟩) hHeld ?_ ?_
    rotate_left
    ·rintro w' ⟨s0,s1,s2,s3⟩
     go_simp
     with_reducible rfl
    rotate_left
    ·simp only [Act.put,s1_,s2_,s3_,i64_w,i32_w]
     rfl
    refine take_ (i:=1) (N:=some 27) (v:=?_) (a':=?_) #[true,true,false,false,false] rfl rfl (by kernel_rfl) (fun _ _ _ h=>h) (Or.inl ⟨by rfl,?_⟩) hHeld ?_ ?_
    rotate_left
    ·rintro w' ⟨s0,s1,s2,s3⟩
     go_simp
     with_reducible rfl
    rotate_left
    ·simp only [Act.put,s1_,s2_,s3_,i64_w,i32_w]
     rfl
    refine one_ (i:=2) (N:=some 28) #[true,true,true,false,false] rfl rfl (by kernel_rfl) (by decide) (fun K hK=>?_)
    refine goes_ Tryd.func10 (by kernel_rfl) rfl #[.agg #[.string a0_0,.slice A0_1 l0_1.length c0_1]] (by rfl) rfl rfl (by (try simp only [List.map_toArray,List.map_cons,List.map_nil]);first|done|rfl|(simp only [List.length_drop,List.length_take];rfl)) ?_
    with_reducible refine (laws_toStream.calls k a0_0 _ _ l0_1 t407 t408 _ ?side1 ?side2 A13.out).mono ?_
    (case side1=>repeat (first|exact (Kd.C_below HR0_1.out HB.out)|(with_reducible refine Kd.C_alloc ?_ _)|(with_reducible refine Kd.C_drewN ?_ _)|(with_reducible refine Kd.C_drew ?_)))
    (case side2=>exact HC0_1.out)
    rintro e w49 ⟨v409,rfl,ho0,hb⟩
    refine ⟨_,rfl,?_⟩
    have n0_:=m_ (Kd.R_elder' (by (with_reducible repeat (first|apply Kd.R_alloc|apply Kd.R_drewN|apply Kd.R_drew));exact HO399.out) (Kd.R_base ho0) hb)
    have n1_:=m_ (Kd.R_elder' (by (with_reducible repeat (first|apply Kd.R_alloc|apply Kd.R_drewN|apply Kd.R_drew));exact HO404.out) (Kd.R_base ho0) hb)
    have n2_:=m_ (Kd.R_lower (Kd.R_new' (Kd.R_new' ho0 (Kd.R_lt (by (with_reducible repeat (first|apply Kd.R_alloc|apply Kd.R_drewN|apply Kd.R_drew));exact HO399.out))) (Kd.R_lt (by (with_reducible repeat (first|apply Kd.R_alloc|apply Kd.R_drewN|apply Kd.R_drew));exact HO404.out))) (l6_ (by repeat (first|(with_reducible first|exact HB.out|apply l1_|apply l2_|apply l3_|refine l4_ ?_ GE394.out|refine l4_ ?_ GE405.out)|exact HB.out))))
    have n3_:=m_ (blk_below (g:=gb394) (o:=.cells #[.string a0_0,.slice A0_1 l0_1.length c0_1] 24 (0,0)) (by (with_reducible repeat first|apply b1_|apply b2_|apply b3_);exact BK394.out) hb)
    have n4_:=m_ (blk_below (g:=gb405) (o:=.cells #[.string t401,.slice Ao46 t402.length co46] 29 (0,0)) (by (with_reducible repeat first|apply b1_|apply b2_|apply b3_);exact BK405.out) hb)
    have n5_:=m_ (l5_ (by repeat (first|(with_reducible first|exact HB.out|apply l1_|apply l2_|apply l3_|refine l4_ ?_ GE394.out|refine l4_ ?_ GE405.out)|exact HB.out)) hb)
    clear HO399
    clear HO404
    clear BK394
    clear BK405
    clear HB
    have HO399:=n0_
    have HO404:=n1_
    have HO410:=n2_
    have BK394:=n3_
    have BK405:=n4_
    have HB:=n5_
    clear n0_ n1_ n2_ n3_ n4_ n5_
    (try clear hb)
    (try clear hb2)
    (try clear hk)
    (try clear hi)
    (try clear ho0)
    obtain ⟨Ao50,co50,eo50⟩:=Kd.R_slice HO410.out
    (first|subst eo50|(injection eo50 with f1_ f2_ f3_;have f4_:=f1_.symm;have f5_:=f3_.symm;clear f1_ f2_ f3_;subst f4_;subst f5_))
    refine hK.out _ _ ⟨(c_ BK405.out 0).trans rfl,(c_ BK405.out 1).trans rfl,(c_ BK394.out 0).trans rfl,(c_ BK394.out 1).trans rfl⟩ (fun hHeld=>?_)
    clear hK K
    refine norm_ (a':=?_) ?_ ?_
    rotate_left
    ·show Act.put _ (some 28) _ = _
     simp only [Act.put,s1_,s2_,s3_,i64_w,i32_w]
     rfl
    refine one_ (i:=3) (N:=some 29) #[true,true,true,true,false] rfl rfl (by kernel_rfl) (by decide) (fun K hK=>?_)
    refine goes_ Tryd.func12 (by kernel_rfl) rfl #[.agg #[.string t401,.slice Ao46 t402.length co46],.agg #[.string t407,.slice Ao50 t408.length co50]] (by rfl) rfl rfl (by (try simp only [List.map_toArray,List.map_cons,List.map_nil]);first|done|rfl|(simp only [List.length_drop,List.length_take];rfl)) ?_
    with_reducible refine (laws_eqStream.calls k t401 _ _ t402 t407 _ _ t408 false _ ?side1 ?side2 ?side3 ?side4 A14.out).mono ?_
    (case side1=>repeat (first|exact (Kd.R_reads' HO404.out).2.2|(with_reducible refine Kd.C_alloc ?_ _)|(with_reducible refine Kd.C_drewN ?_ _)|(with_reducible refine Kd.C_drew ?_)))
    (case side2=>exact (Kd.R_reads' HO404.out).2.1)
    (case side3=>repeat (first|exact (Kd.R_reads' HO410.out).2.2|(with_reducible refine Kd.C_alloc ?_ _)|(with_reducible refine Kd.C_drewN ?_ _)|(with_reducible refine Kd.C_drew ?_)))
    (case side4=>exact (Kd.R_reads' HO410.out).2.1)
    rintro e w51 ⟨rfl,hb⟩
    refine ⟨_,rfl,?_⟩
    have n0_:=m_ (Kd.R_below (by (with_reducible repeat (first|apply Kd.R_alloc|apply Kd.R_drewN|apply Kd.R_drew));exact HO399.out) hb)
    have n1_:=m_ (Kd.R_below (by (with_reducible repeat (first|apply Kd.R_alloc|apply Kd.R_drewN|apply Kd.R_drew));exact HO404.out) hb)
    have n2_:=m_ (Kd.R_below (by (with_reducible repeat (first|apply Kd.R_alloc|apply Kd.R_drewN|apply Kd.R_drew));exact HO410.out) hb)
    have n3_:=m_ (blk_below (g:=gb394) (o:=.cells #[.string a0_0,.slice A0_1 l0_1.length c0_1] 24 (0,0)) (by (with_reducible repeat first|apply b1_|apply b2_|apply b3_);exact BK394.out) hb)
    have n4_:=m_ (blk_below (g:=gb405) (o:=.cells #[.string t401,.slice Ao46 t402.length co46] 29 (0,0)) (by (with_reducible repeat first|apply b1_|apply b2_|apply b3_);exact BK405.out) hb)
    have n5_:=m_ (l5_ (by repeat (first|(with_reducible first|exact HB.out|apply l1_|apply l2_|apply l3_|refine l4_ ?_ GE394.out|refine l4_ ?_ GE405.out)|exact HB.out)) hb)
    clear HO399
    clear HO404
    clear HO410
    clear BK394
    clear BK405
    clear HB
    have HO399:=n0_
    have HO404:=n1_
    have HO410:=n2_
    have BK394:=n3_
    have BK405:=n4_
    have HB:=n5_
    clear n0_ n1_ n2_ n3_ n4_ n5_
    (try clear hb)
    (try clear hb2)
    (try clear hk)
    (try clear hi)
    refine hK.out _ _ ⟨(c_ BK405.out 0).trans rfl,(c_ BK405.out 1).trans rfl,(c_ BK394.out 0).trans rfl,(c_ BK394.out 1).trans rfl⟩ (fun hHeld=>?_)
    clear hK K
    refine norm_ (a':=?_) ?_ ?_
    rotate_left
    ·show Act.put _ (some 29) _ = _
     simp only [Act.put,s1_,s2_,s3_,i64_w,i32_w]
     rfl
    refine pure_ (i:=4) (N:=some 30) (v:=?_) (a':=?_) #[true,true,true,true,true] rfl rfl (by kernel_rfl) (fun _ _ _ h=>h) (Or.inl ⟨by rfl,?_⟩) ?_ ?_
    rotate_left
    ·intro w'
     go_simp
     with_reducible rfl
    rotate_left
    ·simp only [Act.put,s1_,s2_,s3_,i64_w,i32_w]
     rfl
    refine done_ (by kernel_rfl) ?_
    try go_wp2
    go_ret
    exact ⟨by first|rfl|(simp [e1_,e2_] <;> rfl)|(simp [*,e1_,e2_] <;> rfl)|(simp [e1_,e2_,pk_empty1,pk_empty2];done)|(simp [*,e1_,e2_,pk_empty1,pk_empty2];done),by repeat (first|(with_reducible first|exact HB.out|apply l1_|apply l2_|apply l3_|refine l4_ ?_ GE394.out|refine l4_ ?_ GE405.out)|exact HB.out)⟩
  ·rw [if_neg c12] at H
   have c12b0 : (t406 == t400) = false:=beq_eq_false_iff_ne.mpr c12
   have c12b1 : (t406 != t400) = true:=bne_iff_ne.mpr c12
   obtain rfl:=Option.some.inj H
   go_enter Tryd.func6,Tryd.ntmps6
   go_wp2_with (first|((with_reducible refine gate_dst (N:=2) rfl ?_);refine box_event ?hg (N:=2) ?hd (cs:=#[.string a0_0,.slice A0_1 l0_1.length c0_1]) (t:=24) ?hr ?_;(case hd=>rfl);(case hg=>rfl);(case hr=>first|(go_simp;done)|(go_simp;rfl));intro gb394 hg w52 hbox hb;have n0_:=m_ (l5_ (by repeat (first|(with_reducible first|exact HB.out|apply l1_|apply l2_|apply l3_)|exact HB.out)) hb);have n1_:=m_ (hbox);have n2_:=m_ ((by rw [hg];exact (l6_ (by repeat (first|(with_reducible first|exact HB.out|apply l1_|apply l2_|apply l3_)|exact HB.out))) : w.heap.size ≤ gb394));have n3_:=m_ ((by rw [hg];exact (l6_ (by repeat (first|(with_reducible first|exact HB.out|apply l1_|apply l2_|apply l3_)|exact HB.out))) : w.heap.size ≤ gb394));clear HB;have HB:=n0_;have BK394:=n1_;have GW394:=n2_;have GE394:=n3_;clear n0_ n1_ n2_ n3_;clear hb hbox hg;have hcz53_0 : w52.cell? ⟨gb394,0,none⟩ = some (.string a0_0):=(c_ BK394.out 0).trans rfl;have hcz53_1 : w52.cell? ⟨gb394,1,none⟩ = some (.slice A0_1 l0_1.length c0_1):=(c_ BK394.out 1).trans rfl;have hfz53_0:=f_ BK394.out 0;have hfz53_1:=f_ BK394.out 1)|((with_reducible refine gate_callee (f:=8) rfl ?_);refine goesL_ (some 11) rfl rfl Tryd.func8 (by kernel_rfl) rfl #[.agg #[.string a0_0,.slice A0_1 l0_1.length c0_1],.int .i64 1048576] rfl (by (try simp only [List.map_toArray,List.map_cons,List.map_nil]);first|done|rfl|(simp only [List.length_drop,List.length_take];rfl)) ?_;(with_reducible refine (laws_szStream.calls k a0_0 _ _ l0_1 1048576 t395 _ ?side1 ?side2 A3.out).mono ?_);(case side1=>repeat (first|exact (Kd.C_below HR0_1.out HB.out)|(with_reducible refine Kd.C_alloc ?_ _)|(with_reducible refine Kd.C_drewN ?_ _)|(with_reducible refine Kd.C_drew ?_)));(case side2=>exact HC0_1.out);rintro e w54 ⟨rfl,hb⟩;refine ⟨_,rfl,?_⟩;have n0_:=m_ (blk_below (g:=gb394) (o:=.cells #[.string a0_0,.slice A0_1 l0_1.length c0_1] 24 (0,0)) (by (with_reducible repeat first|apply b1_|apply b2_|apply b3_);exact BK394.out) hb);have n1_:=m_ (l5_ (by repeat (first|(with_reducible first|exact HB.out|apply l1_|apply l2_|apply l3_|refine l4_ ?_ GE394.out)|exact HB.out)) hb);clear BK394;clear HB;have BK394:=n0_;have HB:=n1_;clear n0_ n1_;(try clear hb);(try clear hb2);(try clear hk);(try clear hi);have hcz55_0 : w54.cell? ⟨gb394,0,none⟩ = some (.string a0_0):=(c_ BK394.out 0).trans rfl;have hcz55_1 : w54.cell? ⟨gb394,1,none⟩ = some (.slice A0_1 l0_1.length c0_1):=(c_ BK394.out 1).trans rfl;have hfz55_0:=f_ BK394.out 0;have hfz55_1:=f_ BK394.out 1)|((with_reducible refine gate_callee (f:=10) rfl ?_);refine goesL_ (some 15) rfl rfl Tryd.func10 (by kernel_rfl) rfl #[.agg #[.string a0_0,.slice A0_1 l0_1.length c0_1]] rfl (by (try simp only [List.map_toArray,List.map_cons,List.map_nil]);first|done|rfl|(simp only [List.length_drop,List.length_take];rfl)) ?_;(with_reducible refine (laws_toStream.calls k a0_0 _ _ l0_1 t396 t397 _ ?side1 ?side2 A8.out).mono ?_);(case side1=>repeat (first|exact (Kd.C_below HR0_1.out HB.out)|(with_reducible refine Kd.C_alloc ?_ _)|(with_reducible refine Kd.C_drewN ?_ _)|(with_reducible refine Kd.C_drew ?_)));(case side2=>exact HC0_1.out);rintro e w56 ⟨v398,rfl,ho0,hb⟩;refine ⟨_,rfl,?_⟩;have n0_:=m_ (Kd.R_lower ho0 (l6_ (by repeat (first|(with_reducible first|exact HB.out|apply l1_|apply l2_|apply l3_|refine l4_ ?_ GE394.out)|exact HB.out))));have n1_:=m_ (blk_below (g:=gb394) (o:=.cells #[.string a0_0,.slice A0_1 l0_1.length c0_1] 24 (0,0)) (by (with_reducible repeat first|apply b1_|apply b2_|apply b3_);exact BK394.out) hb);have n2_:=m_ (l5_ (by repeat (first|(with_reducible first|exact HB.out|apply l1_|apply l2_|apply l3_|refine l4_ ?_ GE394.out)|exact HB.out)) hb);clear BK394;clear HB;have HO399:=n0_;have BK394:=n1_;have HB:=n2_;clear n0_ n1_ n2_;(try clear hb);(try clear hb2);(try clear hk);(try clear hi);(try clear ho0);obtain ⟨Ao57,co57,eo57⟩:=Kd.R_slice HO399.out;subst eo57)|((with_reducible refine gate_callee (f:=17) rfl ?_);refine goesL_ (some 17) rfl rfl Tryd.func17 (by kernel_rfl) rfl #[.agg #[.string t396,.slice Ao57 t397.length co57],.int .i64 a1] rfl (by (try simp only [List.map_toArray,List.map_cons,List.map_nil]);first|done|rfl|(simp only [List.length_drop,List.length_take];rfl)) ?_;(with_reducible refine (spec_StreamBack.calls k t396 _ _ t397 a1 t400 _ ?side1 ?side2 A9.out).mono ?_);(case side1=>repeat (first|exact (Kd.R_reads' HO399.out).2.2|(with_reducible refine Kd.C_alloc ?_ _)|(with_reducible refine Kd.C_drewN ?_ _)|(with_reducible refine Kd.C_drew ?_)));(case side2=>exact (Kd.R_reads' HO399.out).2.1);rintro e w58 ⟨rfl,hb⟩;refine ⟨_,rfl,?_⟩;have n0_:=m_ (Kd.R_below (by (with_reducible repeat (first|apply Kd.R_alloc|apply Kd.R_drewN|apply Kd.R_drew));exact HO399.out) hb);have n1_:=m_ (blk_below (g:=gb394) (o:=.cells #[.string a0_0,.slice A0_1 l0_1.length c0_1] 24 (0,0)) (by (with_reducible repeat first|apply b1_|apply b2_|apply b3_);exact BK394.out) hb);have n2_:=m_ (l5_ (by repeat (first|(with_reducible first|exact HB.out|apply l1_|apply l2_|apply l3_|refine l4_ ?_ GE394.out)|exact HB.out)) hb);clear HO399;clear BK394;clear HB;have HO399:=n0_;have BK394:=n1_;have HB:=n2_;clear n0_ n1_ n2_;(try clear hb);(try clear hb2);(try clear hk);(try clear hi);have hcz59_0 : w58.cell? ⟨gb394,0,none⟩ = some (.string a0_0):=(c_ BK394.out 0).trans rfl;have hcz59_1 : w58.cell? ⟨gb394,1,none⟩ = some (.slice A0_1 l0_1.length c0_1):=(c_ BK394.out 1).trans rfl;have hfz59_0:=f_ BK394.out 0;have hfz59_1:=f_ BK394.out 1)|((with_reducible refine gate_callee (f:=10) rfl ?_);refine goesL_ (some 19) rfl rfl Tryd.func10 (by kernel_rfl) rfl #[.agg #[.string a0_0,.slice A0_1 l0_1.length c0_1]] rfl (by (try simp only [List.map_toArray,List.map_cons,List.map_nil]);first|done|rfl|(simp only [List.length_drop,List.length_take];rfl)) ?_;(with_reducible refine (laws_toStream.calls k a0_0 _ _ l0_1 t401 t402 _ ?side1 ?side2 A10.out).mono ?_);(case side1=>repeat (first|exact (Kd.C_below HR0_1.out HB.out)|(with_reducible refine Kd.C_alloc ?_ _)|(with_reducible refine Kd.C_drewN ?_ _)|(with_reducible refine Kd.C_drew ?_)));(case side2=>exact HC0_1.out);rintro e w60 ⟨v403,rfl,ho0,hb⟩;refine ⟨_,rfl,?_⟩;have n0_:=m_ (Kd.R_elder' (by (with_reducible repeat (first|apply Kd.R_alloc|apply Kd.R_drewN|apply Kd.R_drew));exact HO399.out) (Kd.R_base ho0) hb);have n1_:=m_ (Kd.R_lower (Kd.R_new' ho0 (Kd.R_lt (by (with_reducible repeat (first|apply Kd.R_alloc|apply Kd.R_drewN|apply Kd.R_drew));exact HO399.out))) (l6_ (by repeat (first|(with_reducible first|exact HB.out|apply l1_|apply l2_|apply l3_|refine l4_ ?_ GE394.out)|exact HB.out))));have n2_:=m_ (blk_below (g:=gb394) (o:=.cells #[.string a0_0,.slice A0_1 l0_1.length c0_1] 24 (0,0)) (by (with_reducible repeat first|apply b1_|apply b2_|apply b3_);exact BK394.out) hb);have n3_:=m_ (l5_ (by repeat (first|(with_reducible first|exact HB.out|apply l1_|apply l2_|apply l3_|refine l4_ ?_ GE394.out)|exact HB.out)) hb);clear HO399;clear BK394;clear HB;have HO399:=n0_;have HO404:=n1_;have BK394:=n2_;have HB:=n3_;clear n0_ n1_ n2_ n3_;(try clear hb);(try clear hb2);(try clear hk);(try clear hi);(try clear ho0))|((with_reducible refine gate_dst (N:=7) rfl ?_);refine box_event ?hg (N:=7) ?hd (cs:=#[.string (⟨#[]⟩ : ByteArray),.slice none 0 0]) (t:=29) ?hr ?_;(case hd=>rfl);(case hg=>rfl);(case hr=>first|(go_simp;done)|(go_simp;rfl));intro gb405 hg w61 hbox hb;have n0_:=m_ (Kd.R_below (by (with_reducible repeat (first|apply Kd.R_alloc|apply Kd.R_drewN|apply Kd.R_drew));exact HO399.out) hb);have n1_:=m_ (Kd.R_below (by (with_reducible repeat (first|apply Kd.R_alloc|apply Kd.R_drewN|apply Kd.R_drew));exact HO404.out) hb);have n2_:=m_ (blk_below (g:=gb394) (o:=.cells #[.string a0_0,.slice A0_1 l0_1.length c0_1] 24 (0,0)) (by (with_reducible repeat first|apply b1_|apply b2_|apply b3_);exact BK394.out) hb);have n3_:=m_ (l5_ (by repeat (first|(with_reducible first|exact HB.out|apply l1_|apply l2_|apply l3_|refine l4_ ?_ GE394.out)|exact HB.out)) hb);have n4_:=m_ (hbox);have n5_:=m_ ((by rw [hg];exact (l6_ (by repeat (first|(with_reducible first|exact HB.out|apply l1_|apply l2_|apply l3_|refine l4_ ?_ GE394.out)|exact HB.out))) : w.heap.size ≤ gb405));have n6_:=n5_;have n7_:=m_ ((by rw [hg];exact Nat.ne_of_lt (blk_lt (g:=gb394) (o:=.cells #[.string a0_0,.slice A0_1 l0_1.length c0_1] 24 (0,0)) (by (with_reducible repeat first|apply b1_|apply b2_|apply b3_);exact BK394.out)) : gb394 ≠ gb405));have n8_:=m_ ((by rw [hg];exact Nat.ne_of_gt (blk_lt (g:=gb394) (o:=.cells #[.string a0_0,.slice A0_1 l0_1.length c0_1] 24 (0,0)) (by (with_reducible repeat first|apply b1_|apply b2_|apply b3_);exact BK394.out)) : gb405 ≠ gb394));clear HO399;clear HO404;clear BK394;clear HB;have HO399:=n0_;have HO404:=n1_;have BK394:=n2_;have HB:=n3_;have BK405:=n4_;have GW405:=n5_;have GE405:=n6_;have NB394_405:=n7_;have NB405_394:=n8_;clear n0_ n1_ n2_ n3_ n4_ n5_ n6_ n7_ n8_;clear hb hbox hg;have hnb62:=NB405_394.out;have hnc62:=NB394_405.out;have hcz63_0 : w61.cell? ⟨gb405,0,none⟩ = some (.string (⟨#[]⟩ : ByteArray)):=(c_ BK405.out 0).trans rfl;have hcz63_1 : w61.cell? ⟨gb405,1,none⟩ = some (.slice none 0 0):=(c_ BK405.out 1).trans rfl;have hfz63_0:=f_ BK405.out 0;have hfz63_1:=f_ BK405.out 1;obtain ⟨Ao64,co64,eo64⟩:=Kd.R_slice HO404.out;subst eo64)|((with_reducible refine gate_callee (f:=18) rfl ?_);refine goesL_ (some 22) rfl rfl Tryd.func18 (by kernel_rfl) rfl #[.agg #[.string t401,.slice Ao64 t402.length co64],.int .i64 a1] rfl (by (try simp only [List.map_toArray,List.map_cons,List.map_nil]);first|done|rfl|(simp only [List.length_drop,List.length_take];rfl)) ?_;(with_reducible refine (impl_StreamBack.calls k t401 _ _ t402 a1 t406 _ ?side1 ?side2 ?side3 A11.out).mono ?_);(case side1=>refine (Kd.R_reads' (e:=41) (base:=w.heap.size) (ok:=fun k_=>(True ∧ some k_ ≠ (.slice Ao57 t397.length co57 : Value).ownBlock)) (n:=t402.length) (c:=co64) ?_).2.2;exact (by (with_reducible repeat (first|apply Kd.R_alloc|apply Kd.R_drewN|apply Kd.R_drew));exact (Kd.R_mono (Kd.R_far (p:=⟨gb405,1,none⟩) (Kd.R_far (p:=⟨gb405,0,none⟩) (Kd.R_types HO404.out BK405.out (by decide)) (fun _ hk=>hk.2) (.string t401)) (fun _ hk=>hk.2) (.slice Ao64 t402.length co64)) (fun _ h_=>h_.1))));(case side2=>exact (Kd.R_reads' HO404.out).2.1);(case side3=>first|(with_reducible exact HG.out)|exact GV_below HG.out (by repeat (first|(with_reducible first|exact HB.out|apply l1_|apply l2_|apply l3_|refine l4_ ?_ GE394.out|refine l4_ ?_ GE405.out)|exact HB.out)));rintro e w65 ⟨rfl,hb⟩;refine ⟨_,rfl,?_⟩;have n0_:=m_ (Kd.R_below (by (with_reducible repeat (first|apply Kd.R_alloc|apply Kd.R_drewN|apply Kd.R_drew));exact (Kd.R_mono (Kd.R_far (p:=⟨gb405,1,none⟩) (Kd.R_far (p:=⟨gb405,0,none⟩) (Kd.R_types HO399.out BK405.out (by decide)) (fun _ hk=>hk.2) (.string t401)) (fun _ hk=>hk.2) (.slice Ao64 t402.length co64)) (fun _ h_=>h_.1))) hb);have n1_:=m_ (Kd.R_below (by (with_reducible repeat (first|apply Kd.R_alloc|apply Kd.R_drewN|apply Kd.R_drew));exact (Kd.R_mono (Kd.R_far (p:=⟨gb405,1,none⟩) (Kd.R_far (p:=⟨gb405,0,none⟩) (Kd.R_types HO404.out BK405.out (by decide)) (fun _ hk=>hk.2) (.string t401)) (fun _ hk=>hk.2) (.slice Ao64 t402.length co64)) (fun _ h_=>h_.1))) hb);have n2_:=m_ (blk_below (g:=gb394) (o:=.cells #[.string a0_0,.slice A0_1 l0_1.length c0_1] 24 (0,0)) (by (with_reducible repeat first|apply b1_|apply b2_|apply b3_);refine b4_ ?_ NB394_405.out _;(with_reducible repeat first|apply b1_|apply b2_|apply b3_);refine b4_ ?_ NB394_405.out _;(with_reducible repeat first|apply b1_|apply b2_|apply b3_);exact BK394.out) hb);have n3_:=m_ (blk_below (g:=gb405) (o:=.cells #[.string t401,.slice Ao64 t402.length co64] 29 (0,0)) (by (with_reducible repeat first|apply b1_|apply b2_|apply b3_);refine blk_put (cs:=#[.string t401,.slice none 0 0]) ?_ 1 _ rfl;(with_reducible repeat first|apply b1_|apply b2_|apply b3_);refine blk_put (cs:=#[.string (⟨#[]⟩ : ByteArray),.slice none 0 0]) ?_ 0 _ rfl;(with_reducible repeat first|apply b1_|apply b2_|apply b3_);exact BK405.out) hb);have n4_:=m_ (l5_ (by repeat (first|(with_reducible first|exact HB.out|apply l1_|apply l2_|apply l3_|refine l4_ ?_ GE394.out|refine l4_ ?_ GE405.out)|exact HB.out)) hb);clear HO399;clear HO404;clear BK394;clear BK405;clear HB;have HO399:=n0_;have HO404:=n1_;have BK394:=n2_;have BK405:=n3_;have HB:=n4_;clear n0_ n1_ n2_ n3_ n4_;(try clear hb);(try clear hb2);(try clear hk);(try clear hi)))
   go_ret
   exact ⟨by first|rfl|(simp [e1_,e2_] <;> rfl)|(simp [*,e1_,e2_] <;> rfl)|(simp [e1_,e2_,pk_empty1,pk_empty2];done)|(simp [*,e1_,e2_,pk_empty1,pk_empty2];done),by repeat (first|(with_reducible first|exact HB.out|apply l1_|apply l2_|apply l3_|refine l4_ ?_ GE394.out|refine l4_ ?_ GE405.out)|exact HB.out)⟩

end Go.Proofs.YtkcjmmhleepjeaaDoor.A
