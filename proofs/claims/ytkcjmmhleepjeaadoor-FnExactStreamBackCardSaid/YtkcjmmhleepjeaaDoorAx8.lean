-- Printed by myprint.py (wip/tools) out of the translation. Not trusted: Lean checks it.
import Derived.Test.YtkcjmmhleepjeaaDoorAx0
import Derived.Test.YtkcjmmhleepjeaaDoorAx6
import Derived.Test.YtkcjmmhleepjeaaDoorAx7
namespace Go.Proofs.YtkcjmmhleepjeaaDoor.A
open Go.RowKit Go.Proofs.YtkcjmmhleepjeaaDoorW.PrintWords Go.Proofs.YtkcjmmhleepjeaaDoorW.PrintLast Go.Proofs.YtkcjmmhleepjeaaDoorW.PrintMore
attribute [local go_sem] max2_int min2_int max_two min_two max_three min_three max_four min_four   -- for this text's walks alone
set_option linter.unusedVariables false
set_option linter.unusedSimpArgs false

/-! ### impl_readName: function 61 -/
def impl_readName.f (a0 : ByteArray) : Option (Int × Int × Bool) := (strings_Cut.f a0 (⟨#[59]⟩ : ByteArray)).bind fun bt254 => ((impl_EndRead.f bt254.1).bind fun bt257 => (if bt254.2.2 = true then (some (bt257.1, bt257.2.1, bt257.2.2)) else (some (bt257.1, bt257.2.1, false))))
set_option maxHeartbeats 8000000 in
set_option maxRecDepth 100000 in
theorem impl_readName.calls (a0 : ByteArray) (r1 : Int) (r2 : Int) (r3 : Bool) (w : World) (hG : GV w) (h : impl_readName.f a0 = some (r1, r2, r3)) :
  Calls Tryd.prog 61 #[.string a0] w fun e w'=>e = .returned (.tuple #[.agg #[.int .i64 r1,.int .i64 r2],.bool r3]) ∧ Below w.heap.size w w':=by
 have hu43:=Tryd.underlying43
 have HG:=m_ hG
 clear hG
 have HB:=m_ (Below.refl w.heap.size w)
 have H : ((strings_Cut.f a0 (⟨#[59]⟩ : ByteArray)).bind fun bt254=>((impl_EndRead.f bt254.1).bind fun bt257=>(if bt254.2.2 = true then (some (bt257.1,bt257.2.1,bt257.2.2)) else (some (bt257.1,bt257.2.1,false))))) = some (r1,r2,r3):=h
 clear h
 replace H:=Option.bind_eq_some_iff.mp H
 obtain ⟨⟨t254,t255,t256⟩,A20,H⟩:=H
 replace H : ((impl_EndRead.f t254).bind fun bt257=>(if t256 = true then (some (bt257.1,bt257.2.1,bt257.2.2)) else (some (bt257.1,bt257.2.1,false)))) = some (r1,r2,r3):=H
 have A2:=m_ A20
 clear A20
 replace H:=Option.bind_eq_some_iff.mp H
 obtain ⟨⟨t257,t258,t259⟩,A30,H⟩:=H
 replace H : (if t256 = true then (some (t257,t258,t259)) else (some (t257,t258,false))) = some (r1,r2,r3):=H
 have A3:=m_ A30
 clear A30
 by_cases c4 : t256 = true
 ·subst c4
  have H1 : (some (t257,t258,t259)) = some (r1,r2,r3):=by rw [if_pos rfl] at H;exact H
  clear H
  have H:=H1
  clear H1
  simp only [Option.some.injEq,Prod.mk.injEq] at H
  obtain ⟨rfl,rfl,rfl⟩:=H
  go_enter Tryd.func61,Tryd.ntmps61
  go_wp2_with (first|((with_reducible refine gate_dst (N:=2) rfl ?_);refine box_event ?hg (N:=2) ?hd (cs:=#[.int .i64 0,.int .i64 0]) (t:=43) ?hr ?_;(case hd=>rfl);(case hg=>rfl);(case hr=>first|(go_simp;done)|(go_simp;rfl));intro gb253 hg w5 hbox hb;have n0_:=m_ (l5_ (by repeat (first|(with_reducible first|exact HB.out|apply l1_|apply l2_|apply l3_)|exact HB.out)) hb);have n1_:=m_ (hbox);have n2_:=m_ ((by rw [hg];exact (l6_ (by repeat (first|(with_reducible first|exact HB.out|apply l1_|apply l2_|apply l3_)|exact HB.out))) : w.heap.size ≤ gb253));have n3_:=m_ ((by rw [hg];exact (l6_ (by repeat (first|(with_reducible first|exact HB.out|apply l1_|apply l2_|apply l3_)|exact HB.out))) : w.heap.size ≤ gb253));clear HB;have HB:=n0_;have BK253:=n1_;have GW253:=n2_;have GE253:=n3_;clear n0_ n1_ n2_ n3_;clear hb hbox hg)|((with_reducible refine gate_callee (f:=74) rfl ?_);refine goesL_ (some 11) rfl rfl Tryd.func74 (by kernel_rfl) rfl #[.string a0,.string (⟨#[59]⟩ : ByteArray)] rfl (by (try simp only [List.map_toArray,List.map_cons,List.map_nil]);first|done|rfl|(simp only [List.length_drop,List.length_take];rfl)) ?_;(with_reducible refine (strings_Cut.calls a0 (⟨#[59]⟩ : ByteArray) t254 t255 true _ A2.out).mono ?_);rintro e w6 ⟨rfl,hb⟩;refine ⟨_,rfl,?_⟩;have n0_:=m_ (blk_below (g:=gb253) (o:=.cells #[.int .i64 0,.int .i64 0] 43 (0,0)) (by (with_reducible repeat first|apply b1_|apply b2_|apply b3_);exact BK253.out) hb);have n1_:=m_ (l5_ (by repeat (first|(with_reducible first|exact HB.out|apply l1_|apply l2_|apply l3_|refine l4_ ?_ GE253.out)|exact HB.out)) hb);clear BK253;clear HB;have BK253:=n0_;have HB:=n1_;clear n0_ n1_;(try clear hb);(try clear hb2);(try clear hk);(try clear hi))|((with_reducible refine gate_callee (f:=75) rfl ?_);refine goesL_ (some 17) rfl rfl Tryd.func75 (by kernel_rfl) rfl #[.string t254] rfl (by (try simp only [List.map_toArray,List.map_cons,List.map_nil]);first|done|rfl|(simp only [List.length_drop,List.length_take];rfl)) ?_;(with_reducible refine (impl_EndRead.calls t254 t257 t258 t259 _ ?side1 A3.out).mono ?_);(case side1=>first|(with_reducible exact HG.out)|exact GV_below HG.out (by repeat (first|(with_reducible first|exact HB.out|apply l1_|apply l2_|apply l3_|refine l4_ ?_ GE253.out)|exact HB.out)));rintro e w7 ⟨rfl,hb⟩;refine ⟨_,rfl,?_⟩;have n0_:=m_ (blk_below (g:=gb253) (o:=.cells #[.int .i64 0,.int .i64 0] 43 (0,0)) (by (with_reducible repeat first|apply b1_|apply b2_|apply b3_);exact BK253.out) hb);have n1_:=m_ (l5_ (by repeat (first|(with_reducible first|exact HB.out|apply l1_|apply l2_|apply l3_|refine l4_ ?_ GE253.out)|exact HB.out)) hb);clear BK253;clear HB;have BK253:=n0_;have HB:=n1_;clear n0_ n1_;(try clear hb);(try clear hb2);(try clear hk);(try clear hi))|((with_reducible refine gate_dst (N:=7) rfl ?_);refine box_event ?hg (N:=7) ?hd (cs:=#[.int .i64 0,.int .i64 0]) (t:=43) ?hr ?_;(case hd=>rfl);(case hg=>rfl);(case hr=>first|(go_simp;done)|(go_simp;rfl));intro gb260 hg w8 hbox hb;have n0_:=m_ (blk_below (g:=gb253) (o:=.cells #[.int .i64 0,.int .i64 0] 43 (0,0)) (by (with_reducible repeat first|apply b1_|apply b2_|apply b3_);exact BK253.out) hb);have n1_:=m_ (l5_ (by repeat (first|(with_reducible first|exact HB.out|apply l1_|apply l2_|apply l3_|refine l4_ ?_ GE253.out)|exact HB.out)) hb);have n2_:=m_ (hbox);have n3_:=m_ ((by rw [hg];exact (l6_ (by repeat (first|(with_reducible first|exact HB.out|apply l1_|apply l2_|apply l3_|refine l4_ ?_ GE253.out)|exact HB.out))) : w.heap.size ≤ gb260));have n4_:=n3_;have n5_:=m_ ((by rw [hg];exact Nat.ne_of_lt (blk_lt (g:=gb253) (o:=.cells #[.int .i64 0,.int .i64 0] 43 (0,0)) (by (with_reducible repeat first|apply b1_|apply b2_|apply b3_);exact BK253.out)) : gb253 ≠ gb260));have n6_:=m_ n5_.out.symm;clear BK253;clear HB;have BK253:=n0_;have HB:=n1_;have BK260:=n2_;have GW260:=n3_;have GE260:=n4_;have NB253_260:=n5_;have NB260_253:=n6_;clear n0_ n1_ n2_ n3_ n4_ n5_ n6_;clear hb hbox hg;have hnb9:=NB260_253.out;have hnc9:=NB253_260.out;have hcz10_0 : w8.cell? ⟨gb260,0,none⟩ = some (.int .i64 0):=(c_ BK260.out 0).trans rfl;have hcz10_1 : w8.cell? ⟨gb260,1,none⟩ = some (.int .i64 0):=(c_ BK260.out 1).trans rfl;have hfz10_0:=f_ BK260.out 0;have hfz10_1:=f_ BK260.out 1;have hcz11_0 : w8.cell? ⟨gb253,0,none⟩ = some (.int .i64 0):=(c_ BK253.out 0).trans rfl;have hcz11_1 : w8.cell? ⟨gb253,1,none⟩ = some (.int .i64 0):=(c_ BK253.out 1).trans rfl;have hfz11_0:=f_ BK253.out 0;have hfz11_1:=f_ BK253.out 1))
  refine bodyPost_ret (results_ct rfl _ _ gb253 43 #[.int .i64 t257,.int .i64 t258] (0,0) _ rfl (by (with_reducible repeat first|apply b1_|apply b2_|apply b3_);refine blk_put (cs:=#[.int .i64 t257,.int .i64 0]) ?_ 1 _ rfl;(with_reducible repeat first|apply b1_|apply b2_|apply b3_);refine blk_put (cs:=#[.int .i64 0,.int .i64 0]) ?_ 0 _ rfl;(with_reducible repeat first|apply b1_|apply b2_|apply b3_);refine b4_ ?_ NB253_260.out _;(with_reducible repeat first|apply b1_|apply b2_|apply b3_);refine b4_ ?_ NB253_260.out _;(with_reducible repeat first|apply b1_|apply b2_|apply b3_);exact BK253.out) Tryd.underlying43 rfl (by kernel_rfl)) rfl ?_
  exact ⟨by first|rfl|(simp [e1_,e2_] <;> rfl)|(simp [*,e1_,e2_] <;> rfl)|(simp [e1_,e2_,pk_empty1,pk_empty2];done)|(simp [*,e1_,e2_,pk_empty1,pk_empty2];done),by repeat (first|(with_reducible first|exact HB.out|apply l1_|apply l2_|apply l3_|refine l4_ ?_ GE253.out|refine l4_ ?_ GE260.out)|exact HB.out)⟩
 ·replace c4:=Bool.eq_false_iff.mpr c4
  subst c4
  have H1 : (some (t257,t258,false)) = some (r1,r2,r3):=by rw [if_neg (show ¬ (false = true) by decide)] at H;exact H
  clear H
  have H:=H1
  clear H1
  simp only [Option.some.injEq,Prod.mk.injEq] at H
  obtain ⟨rfl,rfl,rfl⟩:=H
  go_enter Tryd.func61,Tryd.ntmps61
  go_wp2_with (first|((with_reducible refine gate_dst (N:=2) rfl ?_);refine box_event ?hg (N:=2) ?hd (cs:=#[.int .i64 0,.int .i64 0]) (t:=43) ?hr ?_;(case hd=>rfl);(case hg=>rfl);(case hr=>first|(go_simp;done)|(go_simp;rfl));intro gb253 hg w12 hbox hb;have n0_:=m_ (l5_ (by repeat (first|(with_reducible first|exact HB.out|apply l1_|apply l2_|apply l3_)|exact HB.out)) hb);have n1_:=m_ (hbox);have n2_:=m_ ((by rw [hg];exact (l6_ (by repeat (first|(with_reducible first|exact HB.out|apply l1_|apply l2_|apply l3_)|exact HB.out))) : w.heap.size ≤ gb253));have n3_:=m_ ((by rw [hg];exact (l6_ (by repeat (first|(with_reducible first|exact HB.out|apply l1_|apply l2_|apply l3_)|exact HB.out))) : w.heap.size ≤ gb253));clear HB;have HB:=n0_;have BK253:=n1_;have GW253:=n2_;have GE253:=n3_;clear n0_ n1_ n2_ n3_;clear hb hbox hg)|((with_reducible refine gate_callee (f:=74) rfl ?_);refine goesL_ (some 11) rfl rfl Tryd.func74 (by kernel_rfl) rfl #[.string a0,.string (⟨#[59]⟩ : ByteArray)] rfl (by (try simp only [List.map_toArray,List.map_cons,List.map_nil]);first|done|rfl|(simp only [List.length_drop,List.length_take];rfl)) ?_;(with_reducible refine (strings_Cut.calls a0 (⟨#[59]⟩ : ByteArray) t254 t255 false _ A2.out).mono ?_);rintro e w13 ⟨rfl,hb⟩;refine ⟨_,rfl,?_⟩;have n0_:=m_ (blk_below (g:=gb253) (o:=.cells #[.int .i64 0,.int .i64 0] 43 (0,0)) (by (with_reducible repeat first|apply b1_|apply b2_|apply b3_);exact BK253.out) hb);have n1_:=m_ (l5_ (by repeat (first|(with_reducible first|exact HB.out|apply l1_|apply l2_|apply l3_|refine l4_ ?_ GE253.out)|exact HB.out)) hb);clear BK253;clear HB;have BK253:=n0_;have HB:=n1_;clear n0_ n1_;(try clear hb);(try clear hb2);(try clear hk);(try clear hi))|((with_reducible refine gate_callee (f:=75) rfl ?_);refine goesL_ (some 17) rfl rfl Tryd.func75 (by kernel_rfl) rfl #[.string t254] rfl (by (try simp only [List.map_toArray,List.map_cons,List.map_nil]);first|done|rfl|(simp only [List.length_drop,List.length_take];rfl)) ?_;(with_reducible refine (impl_EndRead.calls t254 t257 t258 t259 _ ?side1 A3.out).mono ?_);(case side1=>first|(with_reducible exact HG.out)|exact GV_below HG.out (by repeat (first|(with_reducible first|exact HB.out|apply l1_|apply l2_|apply l3_|refine l4_ ?_ GE253.out)|exact HB.out)));rintro e w14 ⟨rfl,hb⟩;refine ⟨_,rfl,?_⟩;have n0_:=m_ (blk_below (g:=gb253) (o:=.cells #[.int .i64 0,.int .i64 0] 43 (0,0)) (by (with_reducible repeat first|apply b1_|apply b2_|apply b3_);exact BK253.out) hb);have n1_:=m_ (l5_ (by repeat (first|(with_reducible first|exact HB.out|apply l1_|apply l2_|apply l3_|refine l4_ ?_ GE253.out)|exact HB.out)) hb);clear BK253;clear HB;have BK253:=n0_;have HB:=n1_;clear n0_ n1_;(try clear hb);(try clear hb2);(try clear hk);(try clear hi))|((with_reducible refine gate_dst (N:=7) rfl ?_);refine box_event ?hg (N:=7) ?hd (cs:=#[.int .i64 0,.int .i64 0]) (t:=43) ?hr ?_;(case hd=>rfl);(case hg=>rfl);(case hr=>first|(go_simp;done)|(go_simp;rfl));intro gb260 hg w15 hbox hb;have n0_:=m_ (blk_below (g:=gb253) (o:=.cells #[.int .i64 0,.int .i64 0] 43 (0,0)) (by (with_reducible repeat first|apply b1_|apply b2_|apply b3_);exact BK253.out) hb);have n1_:=m_ (l5_ (by repeat (first|(with_reducible first|exact HB.out|apply l1_|apply l2_|apply l3_|refine l4_ ?_ GE253.out)|exact HB.out)) hb);have n2_:=m_ (hbox);have n3_:=m_ ((by rw [hg];exact (l6_ (by repeat (first|(with_reducible first|exact HB.out|apply l1_|apply l2_|apply l3_|refine l4_ ?_ GE253.out)|exact HB.out))) : w.heap.size ≤ gb260));have n4_:=n3_;have n5_:=m_ ((by rw [hg];exact Nat.ne_of_lt (blk_lt (g:=gb253) (o:=.cells #[.int .i64 0,.int .i64 0] 43 (0,0)) (by (with_reducible repeat first|apply b1_|apply b2_|apply b3_);exact BK253.out)) : gb253 ≠ gb260));have n6_:=m_ n5_.out.symm;clear BK253;clear HB;have BK253:=n0_;have HB:=n1_;have BK260:=n2_;have GW260:=n3_;have GE260:=n4_;have NB253_260:=n5_;have NB260_253:=n6_;clear n0_ n1_ n2_ n3_ n4_ n5_ n6_;clear hb hbox hg;have hnb16:=NB260_253.out;have hnc16:=NB253_260.out;have hcz17_0 : w15.cell? ⟨gb260,0,none⟩ = some (.int .i64 0):=(c_ BK260.out 0).trans rfl;have hcz17_1 : w15.cell? ⟨gb260,1,none⟩ = some (.int .i64 0):=(c_ BK260.out 1).trans rfl;have hfz17_0:=f_ BK260.out 0;have hfz17_1:=f_ BK260.out 1;have hcz18_0 : w15.cell? ⟨gb253,0,none⟩ = some (.int .i64 0):=(c_ BK253.out 0).trans rfl;have hcz18_1 : w15.cell? ⟨gb253,1,none⟩ = some (.int .i64 0):=(c_ BK253.out 1).trans rfl;have hfz18_0:=f_ BK253.out 0;have hfz18_1:=f_ BK253.out 1))
  refine bodyPost_ret (results_ct rfl _ _ gb253 43 #[.int .i64 t257,.int .i64 t258] (0,0) _ rfl (by (with_reducible repeat first|apply b1_|apply b2_|apply b3_);refine blk_put (cs:=#[.int .i64 t257,.int .i64 0]) ?_ 1 _ rfl;(with_reducible repeat first|apply b1_|apply b2_|apply b3_);refine blk_put (cs:=#[.int .i64 0,.int .i64 0]) ?_ 0 _ rfl;(with_reducible repeat first|apply b1_|apply b2_|apply b3_);refine b4_ ?_ NB253_260.out _;(with_reducible repeat first|apply b1_|apply b2_|apply b3_);refine b4_ ?_ NB253_260.out _;(with_reducible repeat first|apply b1_|apply b2_|apply b3_);exact BK253.out) Tryd.underlying43 rfl (by kernel_rfl)) rfl ?_
  exact ⟨by first|rfl|(simp [e1_,e2_] <;> rfl)|(simp [*,e1_,e2_] <;> rfl)|(simp [e1_,e2_,pk_empty1,pk_empty2];done)|(simp [*,e1_,e2_,pk_empty1,pk_empty2];done),by repeat (first|(with_reducible first|exact HB.out|apply l1_|apply l2_|apply l3_|refine l4_ ?_ GE253.out|refine l4_ ?_ GE260.out)|exact HB.out)⟩

/-! ### impl_name: function 62 -/
def impl_name.f (a0_0 : Int) (a0_1 : Int) : Option (ByteArray) := (impl_EndText.f a0_0 a0_1).bind fun t262 => (if 1 + t262.size ≤ 9223372036854775807 then (if 1 + t262.size + 1 ≤ 9223372036854775807 then (some (((⟨#[64]⟩ : ByteArray) ++ t262) ++ (⟨#[59]⟩ : ByteArray))) else (none)) else (none))
set_option maxHeartbeats 8000000 in
set_option maxRecDepth 100000 in
theorem impl_name.calls (a0_0 : Int) (a0_1 : Int) (r : ByteArray) (w : World) (h : impl_name.f a0_0 a0_1 = some r) :
  Calls Tryd.prog 62 #[.agg #[.int .i64 a0_0,.int .i64 a0_1]] w fun e w'=>e = .returned (.string r) ∧ Below w.heap.size w w':=by
 have hu43:=Tryd.underlying43
 have HB:=m_ (Below.refl w.heap.size w)
 have H : ((impl_EndText.f a0_0 a0_1).bind fun t262=>(if 1 + t262.size ≤ 9223372036854775807 then (if 1 + t262.size + 1 ≤ 9223372036854775807 then (some (((⟨#[64]⟩ : ByteArray) ++ t262) ++ (⟨#[59]⟩ : ByteArray))) else (none)) else (none))) = some r:=h
 clear h
 replace H:=Option.bind_eq_some_iff.mp H
 obtain ⟨t262,A20,H⟩:=H
 replace H : (if 1 + t262.size ≤ 9223372036854775807 then (if 1 + t262.size + 1 ≤ 9223372036854775807 then (some (((⟨#[64]⟩ : ByteArray) ++ t262) ++ (⟨#[59]⟩ : ByteArray))) else (none)) else (none)) = some r:=H
 have A2:=m_ A20
 clear A20
 by_cases c3 : 1 + t262.size ≤ 9223372036854775807
 ·rw [if_pos c3] at H
  have c3b0:=eq_true c3
  have c3b1 : decide (1 + t262.size ≤ 9223372036854775807) = true:=decide_eq_true c3
  try have c3b2 : (9223372036854775807 < 1 + t262.size) = False:=eq_false (Nat.not_lt.2 c3)
  by_cases c4 : 1 + t262.size + 1 ≤ 9223372036854775807
  ·rw [if_pos c4] at H
   have c4b0:=eq_true c4
   have c4b1 : decide (1 + t262.size + 1 ≤ 9223372036854775807) = true:=decide_eq_true c4
   try have c4b2 : (9223372036854775807 < 1 + t262.size + 1) = False:=eq_false (Nat.not_lt.2 c4)
   obtain rfl:=Option.some.inj H
   go_enter Tryd.func62,Tryd.ntmps62
   go_wp2_with (first|((with_reducible refine gate_dst (N:=1) rfl ?_);refine box_event ?hg (N:=1) ?hd (cs:=#[.int .i64 a0_0,.int .i64 a0_1]) (t:=43) ?hr ?_;(case hd=>rfl);(case hg=>rfl);(case hr=>first|(go_simp;done)|(go_simp;rfl));intro gb261 hg w5 hbox hb;have n0_:=m_ (l5_ (by repeat (first|(with_reducible first|exact HB.out|apply l1_|apply l2_|apply l3_)|exact HB.out)) hb);have n1_:=m_ (hbox);have n2_:=m_ ((by rw [hg];exact (l6_ (by repeat (first|(with_reducible first|exact HB.out|apply l1_|apply l2_|apply l3_)|exact HB.out))) : w.heap.size ≤ gb261));have n3_:=m_ ((by rw [hg];exact (l6_ (by repeat (first|(with_reducible first|exact HB.out|apply l1_|apply l2_|apply l3_)|exact HB.out))) : w.heap.size ≤ gb261));clear HB;have HB:=n0_;have BK261:=n1_;have GW261:=n2_;have GE261:=n3_;clear n0_ n1_ n2_ n3_;clear hb hbox hg;have hcz6_0 : w5.cell? ⟨gb261,0,none⟩ = some (.int .i64 a0_0):=(c_ BK261.out 0).trans rfl;have hcz6_1 : w5.cell? ⟨gb261,1,none⟩ = some (.int .i64 a0_1):=(c_ BK261.out 1).trans rfl)|((with_reducible refine gate_callee (f:=76) rfl ?_);refine goesL_ (some 4) rfl rfl Tryd.func76 (by kernel_rfl) rfl #[.agg #[.int .i64 a0_0,.int .i64 a0_1]] rfl (by (try simp only [List.map_toArray,List.map_cons,List.map_nil]);first|done|rfl|(simp only [List.length_drop,List.length_take];rfl)) ?_;(with_reducible refine (impl_EndText.calls a0_0 a0_1 t262 _ A2.out).mono ?_);rintro e w7 ⟨rfl,hb⟩;refine ⟨_,rfl,?_⟩;have n0_:=m_ (blk_below (g:=gb261) (o:=.cells #[.int .i64 a0_0,.int .i64 a0_1] 43 (0,0)) (by (with_reducible repeat first|apply b1_|apply b2_|apply b3_);exact BK261.out) hb);have n1_:=m_ (l5_ (by repeat (first|(with_reducible first|exact HB.out|apply l1_|apply l2_|apply l3_|refine l4_ ?_ GE261.out)|exact HB.out)) hb);clear BK261;clear HB;have BK261:=n0_;have HB:=n1_;clear n0_ n1_;(try clear hb);(try clear hb2);(try clear hk);(try clear hi)))
   go_ret
   exact ⟨by first|rfl|(simp [e1_,e2_] <;> rfl)|(simp [*,e1_,e2_] <;> rfl)|(simp [e1_,e2_,pk_empty1,pk_empty2];done)|(simp [*,e1_,e2_,pk_empty1,pk_empty2];done),by repeat (first|(with_reducible first|exact HB.out|apply l1_|apply l2_|apply l3_|refine l4_ ?_ GE261.out)|exact HB.out)⟩
  ·rw [if_neg c4] at H
   exact absurd H (by simp)
 ·rw [if_neg c3] at H
  exact absurd H (by simp)

/-! ### impl_piece: function 46 -/
def impl_piece.f (a0 : ByteArray) : Option (Int × Bool × Int × Int) := (strings_CutPrefix.f a0 (⟨#[64]⟩ : ByteArray)).bind fun bt264 => (if bt264.2 = true then ((impl_readName.f bt264.1).bind fun bt266 => (if bt266.2.2 = true then ((impl_name.f bt266.1 bt266.2.1).bind fun t270 => (some ((t270.size : Int), true, bt266.1, bt266.2.1))) else (some (1, false, 0, 0)))) else (some (1, false, 0, 0)))
set_option maxHeartbeats 8000000 in
set_option maxRecDepth 100000 in
theorem impl_piece.calls (a0 : ByteArray) (r1 : Int) (r2 : Bool) (r3 : Int) (r4 : Int) (w : World) (hG : GV w) (h : impl_piece.f a0 = some (r1, r2, r3, r4)) :
  Calls Tryd.prog 46 #[.string a0] w fun e w'=>e = .returned (.agg #[.int .i64 r1,.bool r2,.int .i64 r3,.int .i64 r4]) ∧ Below w.heap.size w w':=by
 have hu45:=Tryd.underlying45
 have hu43:=Tryd.underlying43
 have HG:=m_ hG
 clear hG
 have HB:=m_ (Below.refl w.heap.size w)
 have H : ((strings_CutPrefix.f a0 (⟨#[64]⟩ : ByteArray)).bind fun bt264=>(if bt264.2 = true then ((impl_readName.f bt264.1).bind fun bt266=>(if bt266.2.2 = true then ((impl_name.f bt266.1 bt266.2.1).bind fun t270=>(some ((t270.size : Int),true,bt266.1,bt266.2.1))) else (some (1,false,0,0)))) else (some (1,false,0,0)))) = some (r1,r2,r3,r4):=h
 clear h
 replace H:=Option.bind_eq_some_iff.mp H
 obtain ⟨⟨t264,t265⟩,A20,H⟩:=H
 replace H : (if t265 = true then ((impl_readName.f t264).bind fun bt266=>(if bt266.2.2 = true then ((impl_name.f bt266.1 bt266.2.1).bind fun t270=>(some ((t270.size : Int),true,bt266.1,bt266.2.1))) else (some (1,false,0,0)))) else (some (1,false,0,0))) = some (r1,r2,r3,r4):=H
 have A2:=m_ A20
 clear A20
 by_cases c3 : t265 = true
 ·subst c3
  have H1 : ((impl_readName.f t264).bind fun bt266=>(if bt266.2.2 = true then ((impl_name.f bt266.1 bt266.2.1).bind fun t270=>(some ((t270.size : Int),true,bt266.1,bt266.2.1))) else (some (1,false,0,0)))) = some (r1,r2,r3,r4):=by rw [if_pos rfl] at H;exact H
  clear H
  have H:=H1
  clear H1
  replace H:=Option.bind_eq_some_iff.mp H
  obtain ⟨⟨t266,t267,t268⟩,A40,H⟩:=H
  replace H : (if t268 = true then ((impl_name.f t266 t267).bind fun t270=>(some ((t270.size : Int),true,t266,t267))) else (some (1,false,0,0))) = some (r1,r2,r3,r4):=H
  have A4:=m_ A40
  clear A40
  by_cases c5 : t268 = true
  ·subst c5
   have H1 : ((impl_name.f t266 t267).bind fun t270=>(some ((t270.size : Int),true,t266,t267))) = some (r1,r2,r3,r4):=by rw [if_pos rfl] at H;exact H
   clear H
   have H:=H1
   clear H1
   replace H:=Option.bind_eq_some_iff.mp H
   obtain ⟨t270,A60,H⟩:=H
   replace H : (some ((t270.size : Int),true,t266,t267)) = some (r1,r2,r3,r4):=H
   have A6:=m_ A60
   clear A60
   simp only [Option.some.injEq,Prod.mk.injEq] at H
   obtain ⟨rfl,rfl,rfl,rfl⟩:=H
   go_enter Tryd.func46,Tryd.ntmps46
   try go_wp2_with (first|((with_reducible refine gate_dst (N:=2) rfl ?_);refine box_event ?hg (N:=2) ?hd (cs:=#[.int .i64 0,.bool false,.int .i64 0,.int .i64 0]) (t:=45) ?hr ?_;(case hd=>rfl);(case hg=>rfl);(case hr=>first|(go_simp;done)|(go_simp;rfl));intro gb263 hg w7 hbox hb;have n0_:=m_ (l5_ (by repeat (first|(with_reducible first|exact HB.out|apply l1_|apply l2_|apply l3_)|exact HB.out)) hb);have n1_:=m_ (hbox);have n2_:=m_ ((by rw [hg];exact (l6_ (by repeat (first|(with_reducible first|exact HB.out|apply l1_|apply l2_|apply l3_)|exact HB.out))) : w.heap.size ≤ gb263));have n3_:=m_ ((by rw [hg];exact (l6_ (by repeat (first|(with_reducible first|exact HB.out|apply l1_|apply l2_|apply l3_)|exact HB.out))) : w.heap.size ≤ gb263));clear HB;have HB:=n0_;have BK263:=n1_;have GW263:=n2_;have GE263:=n3_;clear n0_ n1_ n2_ n3_;clear hb hbox hg)|((with_reducible refine gate_callee (f:=60) rfl ?_);refine goesL_ (some 9) rfl rfl Tryd.func60 (by kernel_rfl) rfl #[.string a0,.string (⟨#[64]⟩ : ByteArray)] rfl (by (try simp only [List.map_toArray,List.map_cons,List.map_nil]);first|done|rfl|(simp only [List.length_drop,List.length_take];rfl)) ?_;(with_reducible refine (strings_CutPrefix.calls a0 (⟨#[64]⟩ : ByteArray) t264 true _ A2.out).mono ?_);rintro e w' ⟨rfl,⟨nd,rfl⟩⟩;refine ⟨_,rfl,?_⟩;(try (rw [drewN_self w7];generalize hq_ : World.drewN w7 _ = w7;have n0_ : Aside0 (w7.heap[gb263]? = some (.cells #[.int .i64 0,.bool false,.int .i64 0,.int .i64 0] 45 (0,0))):=⟨by rw [← hq_];exact (by (with_reducible repeat first|apply b1_|apply b2_|apply b3_);exact BK263.out)⟩;have n1_ : Aside0 (Below w.heap.size w w7):=⟨by rw [← hq_];exact (by repeat (first|(with_reducible first|exact HB.out|apply l1_|apply l2_|apply l3_|refine l4_ ?_ GE263.out)|exact HB.out))⟩;clear BK263 HB hq_;have BK263:=n0_;have HB:=n1_;clear n0_ n1_)))|((with_reducible refine gate_callee (f:=61) rfl ?_);refine goesL_ (some 15) rfl rfl Tryd.func61 (by kernel_rfl) rfl #[.string t264] rfl (by (try simp only [List.map_toArray,List.map_cons,List.map_nil]);first|done|rfl|(simp only [List.length_drop,List.length_take];rfl)) ?_;(with_reducible refine (impl_readName.calls t264 t266 t267 true _ ?side1 A4.out).mono ?_);(case side1=>first|(with_reducible exact HG.out)|exact GV_below HG.out (by repeat (first|(with_reducible first|exact HB.out|apply l1_|apply l2_|apply l3_|refine l4_ ?_ GE263.out)|exact HB.out)));rintro e w8 ⟨rfl,hb⟩;refine ⟨_,rfl,?_⟩;have n0_:=m_ (blk_below (g:=gb263) (o:=.cells #[.int .i64 0,.bool false,.int .i64 0,.int .i64 0] 45 (0,0)) (by (with_reducible repeat first|apply b1_|apply b2_|apply b3_);exact BK263.out) hb);have n1_:=m_ (l5_ (by repeat (first|(with_reducible first|exact HB.out|apply l1_|apply l2_|apply l3_|refine l4_ ?_ GE263.out)|exact HB.out)) hb);clear BK263;clear HB;have BK263:=n0_;have HB:=n1_;clear n0_ n1_;(try clear hb);(try clear hb2);(try clear hk);(try clear hi))|((with_reducible refine gate_dst (N:=5) rfl ?_);refine box_event ?hg (N:=5) ?hd (cs:=#[.int .i64 0,.int .i64 0]) (t:=43) ?hr ?_;(case hd=>rfl);(case hg=>rfl);(case hr=>first|(go_simp;done)|(go_simp;rfl));intro gb269 hg w9 hbox hb;have n0_:=m_ (blk_below (g:=gb263) (o:=.cells #[.int .i64 0,.bool false,.int .i64 0,.int .i64 0] 45 (0,0)) (by (with_reducible repeat first|apply b1_|apply b2_|apply b3_);exact BK263.out) hb);have n1_:=m_ (l5_ (by repeat (first|(with_reducible first|exact HB.out|apply l1_|apply l2_|apply l3_|refine l4_ ?_ GE263.out)|exact HB.out)) hb);have n2_:=m_ (hbox);have n3_:=m_ ((by rw [hg];exact (l6_ (by repeat (first|(with_reducible first|exact HB.out|apply l1_|apply l2_|apply l3_|refine l4_ ?_ GE263.out)|exact HB.out))) : w.heap.size ≤ gb269));have n4_:=n3_;have n5_:=m_ ((by rw [hg];exact Nat.ne_of_lt (blk_lt (g:=gb263) (o:=.cells #[.int .i64 0,.bool false,.int .i64 0,.int .i64 0] 45 (0,0)) (by (with_reducible repeat first|apply b1_|apply b2_|apply b3_);exact BK263.out)) : gb263 ≠ gb269));have n6_:=m_ n5_.out.symm;clear BK263;clear HB;have BK263:=n0_;have HB:=n1_;have BK269:=n2_;have GW269:=n3_;have GE269:=n4_;have NB263_269:=n5_;have NB269_263:=n6_;clear n0_ n1_ n2_ n3_ n4_ n5_ n6_;clear hb hbox hg;have hnb10:=NB269_263.out;have hnc10:=NB263_269.out;have hcz11_0 : w9.cell? ⟨gb269,0,none⟩ = some (.int .i64 0):=(c_ BK269.out 0).trans rfl;have hcz11_1 : w9.cell? ⟨gb269,1,none⟩ = some (.int .i64 0):=(c_ BK269.out 1).trans rfl;have hfz11_0:=f_ BK269.out 0;have hfz11_1:=f_ BK269.out 1))
   have n0_ : Aside0 (((w9.setCell ⟨gb269,0,none⟩ (.int .i64 t266)).setCell ⟨gb269,1,none⟩ (.int .i64 t267)).heap[gb263]? = some (.cells #[.int .i64 0,.bool false,.int .i64 0,.int .i64 0] 45 (0,0))):=⟨by (with_reducible repeat first|apply b1_|apply b2_|apply b3_);refine b4_ ?_ NB263_269.out _;(with_reducible repeat first|apply b1_|apply b2_|apply b3_);refine b4_ ?_ NB263_269.out _;(with_reducible repeat first|apply b1_|apply b2_|apply b3_);exact BK263.out⟩
   have n1_ : Aside0 (((w9.setCell ⟨gb269,0,none⟩ (.int .i64 t266)).setCell ⟨gb269,1,none⟩ (.int .i64 t267)).heap[gb269]? = some (.cells #[.int .i64 t266,.int .i64 t267] 43 (0,0))):=⟨by (with_reducible repeat first|apply b1_|apply b2_|apply b3_);refine blk_put (cs:=#[.int .i64 t266,.int .i64 0]) ?_ 1 _ rfl;(with_reducible repeat first|apply b1_|apply b2_|apply b3_);refine blk_put (cs:=#[.int .i64 0,.int .i64 0]) ?_ 0 _ rfl;(with_reducible repeat first|apply b1_|apply b2_|apply b3_);exact BK269.out⟩
   have n2_ : Aside0 (Below w.heap.size w ((w9.setCell ⟨gb269,0,none⟩ (.int .i64 t266)).setCell ⟨gb269,1,none⟩ (.int .i64 t267))):=⟨by repeat (first|(with_reducible first|exact HB.out|apply l1_|apply l2_|apply l3_|refine l4_ ?_ GE263.out|refine l4_ ?_ GE269.out)|exact HB.out)⟩
   (try clear BK263)
   (try clear BK269)
   (try clear HB)
   generalize ((w9.setCell ⟨gb269,0,none⟩ (.int .i64 t266)).setCell ⟨gb269,1,none⟩ (.int .i64 t267)) = w12 at n0_ n1_ n2_ ⊢
   have BK263:=n0_
   have BK269:=n1_
   have HB:=n2_
   clear n0_ n1_ n2_
   have n0_:=m_ (b2_ BK263.out)
   have n1_:=m_ (b2_ BK269.out)
   have n2_:=m_ (l3_ HB.out)
   clear BK263
   clear BK269
   clear HB
   have BK263:=n0_
   have BK269:=n1_
   have HB:=n2_
   clear n0_ n1_ n2_
   refine start_ (n:=6) (S:=fun w'=>w'.cell? ⟨gb269,0,none⟩ = some (.int .i64 t266) ∧ w'.cell? ⟨gb269,1,none⟩ = some (.int .i64 t267)) (ds:=[]) #[false,false,false,false,false,false] (by kernel_rfl) rfl rfl ⟨(c_ BK269.out 0).trans rfl,(c_ BK269.out 1).trans rfl⟩ (fun hHeld=>?_)
   generalize w12.drew = w13 at BK263 BK269 HB hHeld ⊢
   refine take_ (i:=0) (N:=some 19) (v:=?_) (a':=?_) #[true,false,false,false,false,false] rfl rfl (by kernel_rfl) (fun _ _ _ h=>h) (Or.inl ⟨by rfl,?_⟩) hHeld ?_ ?_
   rotate_left
   ·rintro w' ⟨s0,s1⟩
    go_simp
    with_reducible rfl
   rotate_left
   ·simp only [Act.put,s1_,s2_,s3_,i64_w,i32_w]
    rfl
   refine take_ (i:=3) (N:=some 22) (v:=?_) (a':=?_) #[true,false,false,true,false,false] rfl rfl (by kernel_rfl) (fun _ _ _ h=>h) (Or.inl ⟨by rfl,?_⟩) hHeld ?_ ?_
   rotate_left
   ·rintro w' ⟨s0,s1⟩
    go_simp
    with_reducible rfl
   rotate_left
   ·simp only [Act.put,s1_,s2_,s3_,i64_w,i32_w]
    rfl
   refine one_ (i:=1) (N:=some 20) #[true,true,false,true,false,false] rfl rfl (by kernel_rfl) (by decide) (fun K hK=>?_)
   refine goes_ Tryd.func62 (by kernel_rfl) rfl #[.agg #[.int .i64 t266,.int .i64 t267]] (by rfl) rfl rfl (by (try simp only [List.map_toArray,List.map_cons,List.map_nil]);first|done|rfl|(simp only [List.length_drop,List.length_take];rfl)) ?_
   with_reducible refine (impl_name.calls t266 t267 t270 _ A6.out).mono ?_
   rintro e w14 ⟨rfl,hb⟩
   refine ⟨_,rfl,?_⟩
   have n0_:=m_ (blk_below (g:=gb263) (o:=.cells #[.int .i64 0,.bool false,.int .i64 0,.int .i64 0] 45 (0,0)) (by (with_reducible repeat first|apply b1_|apply b2_|apply b3_);exact BK263.out) hb)
   have n1_:=m_ (blk_below (g:=gb269) (o:=.cells #[.int .i64 t266,.int .i64 t267] 43 (0,0)) (by (with_reducible repeat first|apply b1_|apply b2_|apply b3_);exact BK269.out) hb)
   have n2_:=m_ (l5_ (by repeat (first|(with_reducible first|exact HB.out|apply l1_|apply l2_|apply l3_|refine l4_ ?_ GE263.out|refine l4_ ?_ GE269.out)|exact HB.out)) hb)
   clear BK263
   clear BK269
   clear HB
   have BK263:=n0_
   have BK269:=n1_
   have HB:=n2_
   clear n0_ n1_ n2_
   (try clear hb)
   (try clear hb2)
   (try clear hk)
   (try clear hi)
   refine hK.out _ _ ⟨(c_ BK269.out 0).trans rfl,(c_ BK269.out 1).trans rfl⟩ (fun hHeld=>?_)
   clear hK K
   refine norm_ (a':=?_) ?_ ?_
   rotate_left
   ·show Act.put _ (some 20) _ = _
    simp only [Act.put,s1_,s2_,s3_,i64_w,i32_w]
    rfl
   refine pure_ (i:=2) (N:=some 21) (v:=?_) (a':=?_) #[true,true,true,true,false,false] rfl rfl (by kernel_rfl) (fun _ _ _ h=>h) (Or.inl ⟨by rfl,?_⟩) ?_ ?_
   rotate_left
   ·intro w'
    go_simp
    with_reducible rfl
   rotate_left
   ·simp only [Act.put,s1_,s2_,s3_,i64_w,i32_w]
    rfl
   refine pure_ (i:=4) (N:=some 23) (v:=?_) (a':=?_) #[true,true,true,true,true,false] rfl rfl (by kernel_rfl) (fun _ _ _ h=>h) (Or.inl ⟨by rfl,?_⟩) ?_ ?_
   rotate_left
   ·intro w'
    go_simp
    with_reducible rfl
   rotate_left
   ·simp only [Act.put,s1_,s2_,s3_,i64_w,i32_w]
    rfl
   refine one_ (i:=5) (N:=none) #[true,true,true,true,true,true] rfl rfl (by kernel_rfl) (by decide) (fun K hK=>?_)
   have hs15 : w14.cell? ⟨gb263,0,none⟩ = some (.int .i64 0):=(c_ BK263.out 0).trans rfl
   have hfs15:=f_ BK263.out 0
   have hns15_1:=NB269_263.out
   have hms15_1:=NB263_269.out
   have hs16 : w14.cell? ⟨gb263,1,none⟩ = some (.bool false):=(c_ BK263.out 1).trans rfl
   have hfs16:=f_ BK263.out 1
   have hns16_1:=NB269_263.out
   have hms16_1:=NB263_269.out
   have hs17 : w14.cell? ⟨gb263,2,none⟩ = some (.int .i64 0):=(c_ BK263.out 2).trans rfl
   have hfs17:=f_ BK263.out 2
   have hns17_1:=NB269_263.out
   have hms17_1:=NB263_269.out
   have hs18 : w14.cell? ⟨gb263,3,none⟩ = some (.int .i64 0):=(c_ BK263.out 3).trans rfl
   have hfs18:=f_ BK263.out 3
   have hns18_1:=NB269_263.out
   have hms18_1:=NB263_269.out
   refine skip_ (w1:=?_) (by rfl) rfl ?_ ?_
   rotate_left
   ·go_simp
    rfl
   refine hK.out _ _ ⟨((cell_far (p:=⟨gb263,_,none⟩) NB269_263.out _).trans (((cell_far (p:=⟨gb263,_,none⟩) NB269_263.out _).trans (((cell_far (p:=⟨gb263,_,none⟩) NB269_263.out _).trans (((cell_far (p:=⟨gb263,_,none⟩) NB269_263.out _).trans (hHeld.1)))))))),((cell_far (p:=⟨gb263,_,none⟩) NB269_263.out _).trans (((cell_far (p:=⟨gb263,_,none⟩) NB269_263.out _).trans (((cell_far (p:=⟨gb263,_,none⟩) NB269_263.out _).trans (((cell_far (p:=⟨gb263,_,none⟩) NB269_263.out _).trans (hHeld.2))))))))⟩ (fun hHeld=>?_)
   clear hK K
   refine done_ (by kernel_rfl) ?_
   try go_wp2
   refine bodyPost_ret (results_cell_row rfl _ _ gb263 45 #[.int .i64 (t270.size : Int),.bool true,.int .i64 t266,.int .i64 t267] (0,0) _ rfl (by (with_reducible repeat first|apply b1_|apply b2_|apply b3_);refine blk_put (cs:=#[.int .i64 (t270.size : Int),.bool true,.int .i64 t266,.int .i64 0]) ?_ 3 _ rfl;(with_reducible repeat first|apply b1_|apply b2_|apply b3_);refine blk_put (cs:=#[.int .i64 (t270.size : Int),.bool true,.int .i64 0,.int .i64 0]) ?_ 2 _ rfl;(with_reducible repeat first|apply b1_|apply b2_|apply b3_);refine blk_put (cs:=#[.int .i64 (t270.size : Int),.bool false,.int .i64 0,.int .i64 0]) ?_ 1 _ rfl;(with_reducible repeat first|apply b1_|apply b2_|apply b3_);refine blk_put (cs:=#[.int .i64 0,.bool false,.int .i64 0,.int .i64 0]) ?_ 0 _ rfl;(with_reducible repeat first|apply b1_|apply b2_|apply b3_);exact BK263.out) Tryd.underlying45 rfl (by kernel_rfl)) rfl ?_
   exact ⟨by first|rfl|(simp [e1_,e2_] <;> rfl)|(simp [*,e1_,e2_] <;> rfl)|(simp [e1_,e2_,pk_empty1,pk_empty2];done)|(simp [*,e1_,e2_,pk_empty1,pk_empty2];done),by repeat (first|(with_reducible first|exact HB.out|apply l1_|apply l2_|apply l3_|refine l4_ ?_ GE263.out|refine l4_ ?_ GE269.out)|exact HB.out)⟩
  ·replace c5:=Bool.eq_false_iff.mpr c5
   subst c5
   have H1 : (some (1,false,0,0)) = some (r1,r2,r3,r4):=by rw [if_neg (show ¬ (false = true) by decide)] at H;exact H
   clear H
   have H:=H1
   clear H1
   simp only [Option.some.injEq,Prod.mk.injEq] at H
   obtain ⟨rfl,rfl,rfl,rfl⟩:=H
   go_enter Tryd.func46,Tryd.ntmps46
   go_wp2_with (first|((with_reducible refine gate_dst (N:=2) rfl ?_);refine box_event ?hg (N:=2) ?hd (cs:=#[.int .i64 0,.bool false,.int .i64 0,.int .i64 0]) (t:=45) ?hr ?_;(case hd=>rfl);(case hg=>rfl);(case hr=>first|(go_simp;done)|(go_simp;rfl));intro gb263 hg w19 hbox hb;have n0_:=m_ (l5_ (by repeat (first|(with_reducible first|exact HB.out|apply l1_|apply l2_|apply l3_)|exact HB.out)) hb);have n1_:=m_ (hbox);have n2_:=m_ ((by rw [hg];exact (l6_ (by repeat (first|(with_reducible first|exact HB.out|apply l1_|apply l2_|apply l3_)|exact HB.out))) : w.heap.size ≤ gb263));have n3_:=m_ ((by rw [hg];exact (l6_ (by repeat (first|(with_reducible first|exact HB.out|apply l1_|apply l2_|apply l3_)|exact HB.out))) : w.heap.size ≤ gb263));clear HB;have HB:=n0_;have BK263:=n1_;have GW263:=n2_;have GE263:=n3_;clear n0_ n1_ n2_ n3_;clear hb hbox hg)|((with_reducible refine gate_callee (f:=60) rfl ?_);refine goesL_ (some 9) rfl rfl Tryd.func60 (by kernel_rfl) rfl #[.string a0,.string (⟨#[64]⟩ : ByteArray)] rfl (by (try simp only [List.map_toArray,List.map_cons,List.map_nil]);first|done|rfl|(simp only [List.length_drop,List.length_take];rfl)) ?_;(with_reducible refine (strings_CutPrefix.calls a0 (⟨#[64]⟩ : ByteArray) t264 true _ A2.out).mono ?_);rintro e w' ⟨rfl,⟨nd,rfl⟩⟩;refine ⟨_,rfl,?_⟩;(try (rw [drewN_self w19];generalize hq_ : World.drewN w19 _ = w19;have n0_ : Aside0 (w19.heap[gb263]? = some (.cells #[.int .i64 0,.bool false,.int .i64 0,.int .i64 0] 45 (0,0))):=⟨by rw [← hq_];exact (by (with_reducible repeat first|apply b1_|apply b2_|apply b3_);exact BK263.out)⟩;have n1_ : Aside0 (Below w.heap.size w w19):=⟨by rw [← hq_];exact (by repeat (first|(with_reducible first|exact HB.out|apply l1_|apply l2_|apply l3_|refine l4_ ?_ GE263.out)|exact HB.out))⟩;clear BK263 HB hq_;have BK263:=n0_;have HB:=n1_;clear n0_ n1_)))|((with_reducible refine gate_callee (f:=61) rfl ?_);refine goesL_ (some 15) rfl rfl Tryd.func61 (by kernel_rfl) rfl #[.string t264] rfl (by (try simp only [List.map_toArray,List.map_cons,List.map_nil]);first|done|rfl|(simp only [List.length_drop,List.length_take];rfl)) ?_;(with_reducible refine (impl_readName.calls t264 t266 t267 false _ ?side1 A4.out).mono ?_);(case side1=>first|(with_reducible exact HG.out)|exact GV_below HG.out (by repeat (first|(with_reducible first|exact HB.out|apply l1_|apply l2_|apply l3_|refine l4_ ?_ GE263.out)|exact HB.out)));rintro e w20 ⟨rfl,hb⟩;refine ⟨_,rfl,?_⟩;have n0_:=m_ (blk_below (g:=gb263) (o:=.cells #[.int .i64 0,.bool false,.int .i64 0,.int .i64 0] 45 (0,0)) (by (with_reducible repeat first|apply b1_|apply b2_|apply b3_);exact BK263.out) hb);have n1_:=m_ (l5_ (by repeat (first|(with_reducible first|exact HB.out|apply l1_|apply l2_|apply l3_|refine l4_ ?_ GE263.out)|exact HB.out)) hb);clear BK263;clear HB;have BK263:=n0_;have HB:=n1_;clear n0_ n1_;(try clear hb);(try clear hb2);(try clear hk);(try clear hi))|((with_reducible refine gate_dst (N:=5) rfl ?_);refine box_event ?hg (N:=5) ?hd (cs:=#[.int .i64 0,.int .i64 0]) (t:=43) ?hr ?_;(case hd=>rfl);(case hg=>rfl);(case hr=>first|(go_simp;done)|(go_simp;rfl));intro gb269 hg w21 hbox hb;have n0_:=m_ (blk_below (g:=gb263) (o:=.cells #[.int .i64 0,.bool false,.int .i64 0,.int .i64 0] 45 (0,0)) (by (with_reducible repeat first|apply b1_|apply b2_|apply b3_);exact BK263.out) hb);have n1_:=m_ (l5_ (by repeat (first|(with_reducible first|exact HB.out|apply l1_|apply l2_|apply l3_|refine l4_ ?_ GE263.out)|exact HB.out)) hb);have n2_:=m_ (hbox);have n3_:=m_ ((by rw [hg];exact (l6_ (by repeat (first|(with_reducible first|exact HB.out|apply l1_|apply l2_|apply l3_|refine l4_ ?_ GE263.out)|exact HB.out))) : w.heap.size ≤ gb269));have n4_:=n3_;have n5_:=m_ ((by rw [hg];exact Nat.ne_of_lt (blk_lt (g:=gb263) (o:=.cells #[.int .i64 0,.bool false,.int .i64 0,.int .i64 0] 45 (0,0)) (by (with_reducible repeat first|apply b1_|apply b2_|apply b3_);exact BK263.out)) : gb263 ≠ gb269));have n6_:=m_ n5_.out.symm;clear BK263;clear HB;have BK263:=n0_;have HB:=n1_;have BK269:=n2_;have GW269:=n3_;have GE269:=n4_;have NB263_269:=n5_;have NB269_263:=n6_;clear n0_ n1_ n2_ n3_ n4_ n5_ n6_;clear hb hbox hg;have hnb22:=NB269_263.out;have hnc22:=NB263_269.out;have hcz23_0 : w21.cell? ⟨gb269,0,none⟩ = some (.int .i64 0):=(c_ BK269.out 0).trans rfl;have hcz23_1 : w21.cell? ⟨gb269,1,none⟩ = some (.int .i64 0):=(c_ BK269.out 1).trans rfl;have hfz23_0:=f_ BK269.out 0;have hfz23_1:=f_ BK269.out 1;have hcz24_0 : w21.cell? ⟨gb263,0,none⟩ = some (.int .i64 0):=(c_ BK263.out 0).trans rfl;have hcz24_1 : w21.cell? ⟨gb263,1,none⟩ = some (.bool false):=(c_ BK263.out 1).trans rfl;have hcz24_2 : w21.cell? ⟨gb263,2,none⟩ = some (.int .i64 0):=(c_ BK263.out 2).trans rfl;have hcz24_3 : w21.cell? ⟨gb263,3,none⟩ = some (.int .i64 0):=(c_ BK263.out 3).trans rfl;have hfz24_0:=f_ BK263.out 0;have hfz24_1:=f_ BK263.out 1;have hfz24_2:=f_ BK263.out 2;have hfz24_3:=f_ BK263.out 3))
   refine bodyPost_ret (results_cell_row rfl _ _ gb263 45 #[.int .i64 1,.bool false,.int .i64 0,.int .i64 0] (0,0) _ rfl (by (with_reducible repeat first|apply b1_|apply b2_|apply b3_);refine blk_put (cs:=#[.int .i64 1,.bool false,.int .i64 0,.int .i64 0]) ?_ 3 _ rfl;(with_reducible repeat first|apply b1_|apply b2_|apply b3_);refine blk_put (cs:=#[.int .i64 1,.bool false,.int .i64 0,.int .i64 0]) ?_ 2 _ rfl;(with_reducible repeat first|apply b1_|apply b2_|apply b3_);refine blk_put (cs:=#[.int .i64 1,.bool false,.int .i64 0,.int .i64 0]) ?_ 1 _ rfl;(with_reducible repeat first|apply b1_|apply b2_|apply b3_);refine blk_put (cs:=#[.int .i64 0,.bool false,.int .i64 0,.int .i64 0]) ?_ 0 _ rfl;(with_reducible repeat first|apply b1_|apply b2_|apply b3_);refine b4_ ?_ NB263_269.out _;(with_reducible repeat first|apply b1_|apply b2_|apply b3_);refine b4_ ?_ NB263_269.out _;(with_reducible repeat first|apply b1_|apply b2_|apply b3_);exact BK263.out) Tryd.underlying45 rfl (by kernel_rfl)) rfl ?_
   exact ⟨by first|rfl|(simp [e1_,e2_] <;> rfl)|(simp [*,e1_,e2_] <;> rfl)|(simp [e1_,e2_,pk_empty1,pk_empty2];done)|(simp [*,e1_,e2_,pk_empty1,pk_empty2];done),by repeat (first|(with_reducible first|exact HB.out|apply l1_|apply l2_|apply l3_|refine l4_ ?_ GE263.out|refine l4_ ?_ GE269.out)|exact HB.out)⟩
 ·replace c3:=Bool.eq_false_iff.mpr c3
  subst c3
  have H1 : (some (1,false,0,0)) = some (r1,r2,r3,r4):=by rw [if_neg (show ¬ (false = true) by decide)] at H;exact H
  clear H
  have H:=H1
  clear H1
  simp only [Option.some.injEq,Prod.mk.injEq] at H
  obtain ⟨rfl,rfl,rfl,rfl⟩:=H
  go_enter Tryd.func46,Tryd.ntmps46
  go_wp2_with (first|((with_reducible refine gate_dst (N:=2) rfl ?_);refine box_event ?hg (N:=2) ?hd (cs:=#[.int .i64 0,.bool false,.int .i64 0,.int .i64 0]) (t:=45) ?hr ?_;(case hd=>rfl);(case hg=>rfl);(case hr=>first|(go_simp;done)|(go_simp;rfl));intro gb263 hg w25 hbox hb;have n0_:=m_ (l5_ (by repeat (first|(with_reducible first|exact HB.out|apply l1_|apply l2_|apply l3_)|exact HB.out)) hb);have n1_:=m_ (hbox);have n2_:=m_ ((by rw [hg];exact (l6_ (by repeat (first|(with_reducible first|exact HB.out|apply l1_|apply l2_|apply l3_)|exact HB.out))) : w.heap.size ≤ gb263));have n3_:=m_ ((by rw [hg];exact (l6_ (by repeat (first|(with_reducible first|exact HB.out|apply l1_|apply l2_|apply l3_)|exact HB.out))) : w.heap.size ≤ gb263));clear HB;have HB:=n0_;have BK263:=n1_;have GW263:=n2_;have GE263:=n3_;clear n0_ n1_ n2_ n3_;clear hb hbox hg)|((with_reducible refine gate_callee (f:=60) rfl ?_);refine goesL_ (some 9) rfl rfl Tryd.func60 (by kernel_rfl) rfl #[.string a0,.string (⟨#[64]⟩ : ByteArray)] rfl (by (try simp only [List.map_toArray,List.map_cons,List.map_nil]);first|done|rfl|(simp only [List.length_drop,List.length_take];rfl)) ?_;(with_reducible refine (strings_CutPrefix.calls a0 (⟨#[64]⟩ : ByteArray) t264 false _ A2.out).mono ?_);rintro e w' ⟨rfl,⟨nd,rfl⟩⟩;refine ⟨_,rfl,?_⟩;(try (rw [drewN_self w25];generalize hq_ : World.drewN w25 _ = w25;have n0_ : Aside0 (w25.heap[gb263]? = some (.cells #[.int .i64 0,.bool false,.int .i64 0,.int .i64 0] 45 (0,0))):=⟨by rw [← hq_];exact (by (with_reducible repeat first|apply b1_|apply b2_|apply b3_);exact BK263.out)⟩;have n1_ : Aside0 (Below w.heap.size w w25):=⟨by rw [← hq_];exact (by repeat (first|(with_reducible first|exact HB.out|apply l1_|apply l2_|apply l3_|refine l4_ ?_ GE263.out)|exact HB.out))⟩;clear BK263 HB hq_;have BK263:=n0_;have HB:=n1_;clear n0_ n1_));have hcz26_0 : w25.cell? ⟨gb263,0,none⟩ = some (.int .i64 0):=(c_ BK263.out 0).trans rfl;have hcz26_1 : w25.cell? ⟨gb263,1,none⟩ = some (.bool false):=(c_ BK263.out 1).trans rfl;have hcz26_2 : w25.cell? ⟨gb263,2,none⟩ = some (.int .i64 0):=(c_ BK263.out 2).trans rfl;have hcz26_3 : w25.cell? ⟨gb263,3,none⟩ = some (.int .i64 0):=(c_ BK263.out 3).trans rfl;have hfz26_0:=f_ BK263.out 0;have hfz26_1:=f_ BK263.out 1;have hfz26_2:=f_ BK263.out 2;have hfz26_3:=f_ BK263.out 3))
  refine bodyPost_ret (results_cell_row rfl _ _ gb263 45 #[.int .i64 1,.bool false,.int .i64 0,.int .i64 0] (0,0) _ rfl (by (with_reducible repeat first|apply b1_|apply b2_|apply b3_);refine blk_put (cs:=#[.int .i64 1,.bool false,.int .i64 0,.int .i64 0]) ?_ 3 _ rfl;(with_reducible repeat first|apply b1_|apply b2_|apply b3_);refine blk_put (cs:=#[.int .i64 1,.bool false,.int .i64 0,.int .i64 0]) ?_ 2 _ rfl;(with_reducible repeat first|apply b1_|apply b2_|apply b3_);refine blk_put (cs:=#[.int .i64 1,.bool false,.int .i64 0,.int .i64 0]) ?_ 1 _ rfl;(with_reducible repeat first|apply b1_|apply b2_|apply b3_);refine blk_put (cs:=#[.int .i64 0,.bool false,.int .i64 0,.int .i64 0]) ?_ 0 _ rfl;(with_reducible repeat first|apply b1_|apply b2_|apply b3_);exact BK263.out) Tryd.underlying45 rfl (by kernel_rfl)) rfl ?_
  exact ⟨by first|rfl|(simp [e1_,e2_] <;> rfl)|(simp [*,e1_,e2_] <;> rfl)|(simp [e1_,e2_,pk_empty1,pk_empty2];done)|(simp [*,e1_,e2_,pk_empty1,pk_empty2];done),by repeat (first|(with_reducible first|exact HB.out|apply l1_|apply l2_|apply l3_|refine l4_ ?_ GE263.out)|exact HB.out)⟩

/-! ### slices_Clip_Piece: function 47 -/
/-- The same row, with no more capacity than it has elements. -/
def slices_Clip_Piece.f (l0 : List (S45)) : Option (List (S45)) := some l0
theorem slices_Clip_Piece.calls (P0_ : Nat → Prop) (u9000_ : Value) (l0 : List (S45)) (r : List (S45)) (w0 w : World) (hB : Below w0.heap.size w0 w) (ho0 : Kd.R k45 45 w w0.heap.size P0_ u9000_ l0) (h : slices_Clip_Piece.f l0 = some r) :
  Calls Tryd.prog 47 #[u9000_] w fun e w'=>∃ v0_ : Value,e = .returned v0_ ∧ Kd.R k45 45 w' w0.heap.size (fun k_=>(P0_ k_ ∨ w.heap.size ≤ k_)) v0_ r ∧ Below w0.heap.size w0 w' ∧ Kept w w' (fun k_=>P0_ k_):=by
 obtain rfl:=Option.some.inj h
 obtain ⟨hok,inner,ho,hr⟩:=ho0
 have fin : ∀ v : Value,v.ownBlock = u9000_.ownBlock → Go.Proofs.YtkcjmmhleepjeaaDoorW.ownsWide w w0.heap.size 45 k45.sz v l0.length inner → Kd.R k45 45 w w0.heap.size (fun k_=>(P0_ k_ ∨ w.heap.size ≤ k_)) v l0:=by
  intro v hv hw
  refine ⟨fun k hk=>.inl (hok k (hv ▸ hk)),inner,hw,hr.imp_ (fun _ _ hp=>Kd.M_mono _ (fun k hk=>⟨.inl hk.1,hv ▸ hk.2⟩) hp)⟩
 rcases ho.2 with ⟨rfl,hn⟩|⟨g,cap,cur,rfl,hb,hg,h4,h5,h6,h7⟩
 ·go_enter Tryd.func47,Tryd.ntmps47
  go_wp2
  go_ret
  exact ⟨_,rfl,fin _ rfl ho,hB,Kept.refl _ _⟩
 ·have e0 : (0 : Int) ≤ (l0.length : Int):=Int.natCast_nonneg _
  have e1 : (l0.length : Int) ≤ (cap : Int):=Int.ofNat_le.2 h4
  go_enter Tryd.func47,Tryd.ntmps47
  go_wp2
  go_ret
  exact ⟨_,rfl,fin _ rfl ho.clip,hB,Kept.refl _ _⟩

/-! ### impl_pieces: function 27 -/
def impl_pieces.l0 : Nat → List (S45) → ByteArray → Option ((List (S45)))
 | 0, _, _ => none
 | k + 1, x3, x4 => if x4.toList = ([] : List UInt8) then ((slices_Clip_Piece.f x3).bind fun t275 => (some t275)) else ((impl_piece.f x4).bind fun bt278 => (if x3.length < 4398046511104 then (if 0 ≤ bt278.1 then (if bt278.1 ≤ (x4.size : Int) then (impl_pieces.l0 k (x3 ++ [(⟨bt278.1, bt278.2.1, (⟨bt278.2.2.1, bt278.2.2.2⟩ : S43)⟩ : S45)]) (x4.extract (bt278.1 : Int).toNat x4.size)) else (none)) else (none)) else (none)))
def impl_pieces.f (k : Nat) (a0 : ByteArray) : Option ((List (S45))) := (impl_held.f k a0).bind fun t274 => (if 0 ≤ (wrap64 ((a0.size : Int) - t274)) then (if (wrap64 ((a0.size : Int) - t274)) ≤ (a0.size : Int) then (impl_pieces.l0 k (([] : List (S45))) (a0.extract 0 ((wrap64 ((a0.size : Int) - t274)) : Int).toNat)) else (none)) else (none))
theorem impl_pieces.mono_l : ∀ k, (∀ y0 y1, LeO (impl_pieces.l0 k y0 y1) (impl_pieces.l0 (k + 1) y0 y1))
 | 0 => fun _ _ r h => by simp [impl_pieces.l0] at h
 | k + 1 => by
  have ih0:=impl_pieces.mono_l k
  ·intro y0 y1
   unfold impl_pieces.l0
   repeat' first
   | (with_reducible exact ih0 _ _)
   | (with_reducible exact impl_held.mono _ _)
   | (with_reducible exact LeO.refl _)
   | (with_reducible exact LeO.none _)
   | (with_reducible refine LeO.ite ?_ ?_)
   | (with_reducible refine LeO.bind ?_ (fun _ => ?_))
   | exact ih0 _ _
   | exact impl_held.mono _ _
   | exact LeO.none _
   | refine LeO.ite ?_ ?_
   | refine LeO.bind ?_ (fun _ => ?_)
theorem impl_pieces.mono : ∀ a0 k, LeO (impl_pieces.f k a0) (impl_pieces.f (k + 1) a0) := by
 intro a0 k
 have ih0:=impl_pieces.mono_l k
 unfold impl_pieces.f
 repeat' first
   | (with_reducible exact ih0 _ _)
   | (with_reducible exact impl_held.mono _ _)
   | (with_reducible exact LeO.refl _)
   | (with_reducible exact LeO.none _)
   | (with_reducible refine LeO.ite ?_ ?_)
   | (with_reducible refine LeO.bind ?_ (fun _ => ?_))
   | exact ih0 _ _
   | exact impl_held.mono _ _
   | exact LeO.none _
   | refine LeO.ite ?_ ?_
   | refine LeO.bind ?_ (fun _ => ?_)
set_option maxHeartbeats 8000000 in
set_option maxRecDepth 100000 in
theorem impl_pieces.calls (k : Nat) (a0 : ByteArray) (r : List (S45)) (w : World) (hG : GV w) (h : impl_pieces.f k a0 = some r) :
  Calls Tryd.prog 27 #[.string a0] w fun e w'=>∃ v0_ : Value,e = .returned (v0_) ∧ Kd.R k45 45 w' w.heap.size (fun _=>True) v0_ r ∧ Below w.heap.size w w':=by
 have hu45:=Tryd.underlying45
 have HG:=m_ hG
 clear hG
 have HB:=m_ (Below.refl w.heap.size w)
 have H : ((impl_held.f k a0).bind fun t274=>(if 0 ≤ (wrap64 ((a0.size : Int) - t274)) then (if (wrap64 ((a0.size : Int) - t274)) ≤ (a0.size : Int) then (impl_pieces.l0 k (([] : List (S45))) (a0.extract 0 ((wrap64 ((a0.size : Int) - t274)) : Int).toNat)) else (none)) else (none))) = some r:=h
 clear h
 obtain ⟨y271,hy271⟩ : ∃ y_ : List (S45),y_ = (([] : List (S45))):=⟨_,rfl⟩
 replace H : ((impl_held.f k a0).bind fun t274=>(if 0 ≤ (wrap64 ((a0.size : Int) - t274)) then (if (wrap64 ((a0.size : Int) - t274)) ≤ (a0.size : Int) then (impl_pieces.l0 k y271 (a0.extract 0 ((wrap64 ((a0.size : Int) - t274)) : Int).toNat)) else (none)) else (none))) = some r:=by first|(rw [hy271];with_reducible exact H)|(have H2_:=(Option.bind_some _ _).symm.trans H;rw [hy271];with_reducible exact H2_)|(have H2_:=(Option.bind_some _ _).symm.trans H;with_reducible exact H2_)|with_reducible exact H|(rw [hy271];exact H)|exact H
 have Ny271:=m_ hy271
 clear hy271
 replace H:=Option.bind_eq_some_iff.mp H
 obtain ⟨t274,A20,H⟩:=H
 replace H : (if 0 ≤ (wrap64 ((a0.size : Int) - t274)) then (if (wrap64 ((a0.size : Int) - t274)) ≤ (a0.size : Int) then (impl_pieces.l0 k y271 (a0.extract 0 ((wrap64 ((a0.size : Int) - t274)) : Int).toNat)) else (none)) else (none)) = some r:=H
 have A2:=m_ A20
 clear A20
 obtain ⟨ji3,hji3⟩ : ∃ j_ : Int,(wrap64 ((a0.size : Int) - t274)) = j_:=⟨_,rfl⟩
 replace H : (if 0 ≤ (ji3) then (if (ji3) ≤ (a0.size : Int) then (impl_pieces.l0 k y271 (a0.extract 0 ((ji3) : Int).toNat)) else (none)) else (none)) = some r:=by first|(rw [hji3] at H;exact H)|(simp only [hji3] at H ⊢;exact H)
 (try rw [hji3] at A2)
 have hji3w : (IntKind.i64.wrap ((a0.size : Int) - t274)) = ji3:=(i64_w _).trans hji3
 by_cases c4 : 0 ≤ (ji3)
 ·rw [if_pos c4] at H
  have c4b0:=eq_true c4
  have c4b1 : decide (0 ≤ (ji3)) = true:=decide_eq_true c4
  clear c4
  by_cases c5 : (ji3) ≤ (a0.size : Int)
  ·rw [if_pos c5] at H
   have c5b0:=eq_true c5
   have c5b1 : decide ((ji3) ≤ (a0.size : Int)) = true:=decide_eq_true c5
   clear c5
   have H':=m_ H
   clear H
   go_enter Tryd.func27,Tryd.ntmps27
   go_wp2_with (first|((with_reducible refine gate_dst (N:=6) rfl ?_);refine Kd.R_lit k45 _ 45 ?hg (N:=6) ?hd (xs:=([] : List (S45))) (inner:=[]) (ok:=fun _=>True) (okp:=fun _=>True) ?hr ?hp (fun _ hk=>hk) trivial (Below.refl _ _) (Nat.le_refl _) (by simp) ?_;(case hd=>rfl);(case hg=>rfl);(case hr=>first|(go_simp;done)|(go_simp;rfl));(case hp=>exact (Reps.none _ _));intro v272 w6 ho7 hb hg_ hnew_;clear hg_ hnew_;(first|rw [← Ny271.out] at ho7|(simp only [Int.reduceToNat] at ho7;rw [← Ny271.out] at ho7));have n0_:=m_ (Kd.R_lower ho7 (l6_ (by repeat (first|(with_reducible first|exact HB.out|apply l1_|apply l2_|apply l3_)|exact HB.out))));have n1_:=m_ (l5_ (by repeat (first|(with_reducible first|exact HB.out|apply l1_|apply l2_|apply l3_)|exact HB.out)) hb);clear HB;have HO273:=n0_;have HB:=n1_;clear n0_ n1_;clear hb ho7)|((with_reducible refine gate_callee (f:=45) rfl ?_);refine goesL_ (some 11) rfl rfl Tryd.func45 (by kernel_rfl) rfl #[.string a0] rfl (by (try simp only [List.map_toArray,List.map_cons,List.map_nil]);first|done|rfl|(simp only [List.length_drop,List.length_take];rfl)) ?_;(with_reducible refine (impl_held.calls k a0 t274 _ A2.out).mono ?_);rintro e w8 ⟨rfl,hb⟩;refine ⟨_,rfl,?_⟩;have n0_:=m_ (Kd.R_below (by (with_reducible repeat (first|apply Kd.R_alloc|apply Kd.R_drewN|apply Kd.R_drew));exact HO273.out) hb);have n1_:=m_ (l5_ (by repeat (first|(with_reducible first|exact HB.out|apply l1_|apply l2_|apply l3_)|exact HB.out)) hb);clear HO273;clear HB;have HO273:=n0_;have HB:=n1_;clear n0_ n1_;(try clear hb);(try clear hb2);(try clear hk);(try clear hi)))
   go_loopg [3,4] k (fun kq v3 v4 w'=>∃ (x3_1 : List (S45)) (x4_1 : ByteArray),v4 = .string x4_1 ∧ Aside0 (impl_pieces.l0 kq x3_1 x4_1 = some r) ∧ Aside0 (kq ≤ k) ∧ Aside0 (Kd.R k45 45 w' w.heap.size (fun _=>True) v3 x3_1) ∧ Aside0 (Below w.heap.size w w'))
   case atStart=>exact ⟨(y271),(a0.extract 0 ((ji3) : Int).toNat),(by first|rfl|(simp;done)|(simp only [← hji3] <;> (first|rfl|simp))|(simp [*];done)),H',⟨Nat.le_refl _⟩,⟨by (with_reducible repeat (first|apply Kd.R_alloc|apply Kd.R_drewN|apply Kd.R_drew));exact HO273.out⟩,⟨by repeat (first|(with_reducible first|exact HB.out|apply l1_|apply l2_|apply l3_)|exact HB.out)⟩⟩
   case round =>
    clear H'
    try clear c2
    try clear p2
    try clear c4
    try clear c4b0
    try clear c4b1
    try clear c5
    try clear c5b0
    try clear c5b1
    try clear p6
    obtain ⟨x3_1,x4_1,rfl,HA,HK1,HO_3,HB⟩:=hrel
    cases gk with
    | zero => exact absurd HA.out (by simp [impl_pieces.l0])
    | succ k1 =>
     have H:=HA.out
     clear HA
     simp only [impl_pieces.l0] at H
     by_cases c9 : x4_1.toList = ([] : List UInt8)
     ·rw [if_pos c9] at H
      have c9b0 : x4_1.toList.isEmpty = true:=by simpa using c9
      have c9b1 : (x4_1.toList == ([] : List UInt8)) = true:=beq_iff_eq.mpr c9
      have c9b2 : (x4_1.toList != ([] : List UInt8)) = false:=bne_eq_false_iff_eq.mpr c9
      clear c9
      replace H:=Option.bind_eq_some_iff.mp H
      obtain ⟨t275,A100,H⟩:=H
      replace H : (some t275) = some r:=H
      have A10:=m_ A100
      clear A100
      obtain rfl:=Option.some.inj H
      obtain ⟨Ao11,co11,eo11⟩:=Kd.R_slice HO_3.out
      subst eo11
      go_wp2_with (first|((with_reducible refine gate_callee (f:=47) rfl ?_);refine goesL_ (some 27) rfl rfl Tryd.func47 (by kernel_rfl) rfl #[.slice Ao11 x3_1.length co11] rfl (by (try simp only [List.map_toArray,List.map_cons,List.map_nil]);first|done|rfl|(simp only [List.length_drop,List.length_take];rfl)) ?_;(with_reducible refine (slices_Clip_Piece.calls (fun k_=>some k_ = (.slice Ao11 x3_1.length co11 : Value).ownBlock) (.slice Ao11 x3_1.length co11) x3_1 t275 w _ ?side1 ?side2 A10.out).mono ?_);(case side1=>repeat (first|(with_reducible first|exact HB.out|apply l1_|apply l2_|apply l3_)|exact HB.out));(case side2=>exact Kd.R_tight rfl HO_3.out);rintro e w12 ⟨v276,rfl,ho0,hb,hkp⟩;refine ⟨_,rfl,?_⟩;have n0_:=m_ (Kd.R_mono (ok':=fun k_=>True) ho0 (fun k_ hk_=>trivial));have n1_:=m_ (hb);clear HB;clear HO_3;have HO277:=n0_;have HB:=n1_;clear n0_ n1_;(try clear hb);(try clear hkp);(try clear ho0)))
      go_ret
      exact ⟨_,by first|rfl|(simp [e1_,e2_] <;> rfl)|(simp only [← hji3];first|rfl|(simp [e1_,e2_] <;> rfl))|(simp [*,e1_,e2_] <;> rfl)|(simp [e1_,e2_,pk_empty1,pk_empty2];done)|(simp [*,e1_,e2_,pk_empty1,pk_empty2];done),by (with_reducible repeat (first|apply Kd.R_alloc|apply Kd.R_drewN|apply Kd.R_drew));exact HO277.out,by repeat (first|(with_reducible first|exact HB.out|apply l1_|apply l2_|apply l3_)|exact HB.out)⟩
     ·rw [if_neg c9] at H
      have c9b0 : x4_1.toList.isEmpty = false:=by simpa using c9
      have c9b1 : (x4_1.toList == ([] : List UInt8)) = false:=beq_eq_false_iff_ne.mpr c9
      have c9b2 : (x4_1.toList != ([] : List UInt8)) = true:=bne_iff_ne.mpr c9
      replace H:=Option.bind_eq_some_iff.mp H
      obtain ⟨⟨t278,t279,t280,t281⟩,A130,H⟩:=H
      replace H : (if x3_1.length < 4398046511104 then (if 0 ≤ t278 then (if t278 ≤ (x4_1.size : Int) then (impl_pieces.l0 k1 (x3_1 ++ [(⟨t278,t279,(⟨t280,t281⟩ : S43)⟩ : S45)]) (x4_1.extract (t278 : Int).toNat x4_1.size)) else (none)) else (none)) else (none)) = some r:=H
      have A13:=m_ A130
      clear A130
      by_cases c14 : x3_1.length < 4398046511104
      ·rw [if_pos c14] at H
       have LMc14:=m_ c14
       clear c14
       obtain ⟨y283,hy283⟩ : ∃ y_ : List (S45),y_ = (x3_1 ++ [(⟨t278,t279,(⟨t280,t281⟩ : S43)⟩ : S45)]):=⟨_,rfl⟩
       replace H : (if 0 ≤ t278 then (if t278 ≤ (x4_1.size : Int) then (impl_pieces.l0 k1 y283 (x4_1.extract (t278 : Int).toNat x4_1.size)) else (none)) else (none)) = some r:=by first|(rw [hy283];with_reducible exact H)|(have H2_:=(Option.bind_some _ _).symm.trans H;rw [hy283];with_reducible exact H2_)|(have H2_:=(Option.bind_some _ _).symm.trans H;with_reducible exact H2_)|with_reducible exact H|(rw [hy283];exact H)|exact H
       have Ny283:=m_ hy283
       clear hy283
       by_cases c15 : 0 ≤ t278
       ·rw [if_pos c15] at H
        have c15b0:=eq_true c15
        have c15b1 : decide (0 ≤ t278) = true:=decide_eq_true c15
        clear c15
        by_cases c16 : t278 ≤ (x4_1.size : Int)
        ·rw [if_pos c16] at H
         have c16b0:=eq_true c16
         have c16b1 : decide (t278 ≤ (x4_1.size : Int)) = true:=decide_eq_true c16
         clear c16
         have H':=m_ H
         clear H
         go_wp2_with (first|((with_reducible refine gate_callee (f:=46) rfl ?_);refine goesL_ (some 17) rfl rfl Tryd.func46 (by kernel_rfl) rfl #[.string x4_1] rfl (by (try simp only [List.map_toArray,List.map_cons,List.map_nil]);first|done|rfl|(simp only [List.length_drop,List.length_take];rfl)) ?_;(with_reducible refine (impl_piece.calls x4_1 t278 t279 t280 t281 _ ?side1 A13.out).mono ?_);(case side1=>first|(with_reducible exact HG.out)|exact GV_below HG.out (by repeat (first|(with_reducible first|exact HB.out|apply l1_|apply l2_|apply l3_)|exact HB.out)));rintro e w17 ⟨rfl,hb⟩;refine ⟨_,rfl,?_⟩;have n0_:=m_ (Kd.R_below (by (with_reducible repeat (first|apply Kd.R_alloc|apply Kd.R_drewN|apply Kd.R_drew));exact HO_3.out) hb);have n1_:=m_ (l5_ (by repeat (first|(with_reducible first|exact HB.out|apply l1_|apply l2_|apply l3_)|exact HB.out)) hb);clear HO_3;clear HB;have HO_3:=n0_;have HB:=n1_;clear n0_ n1_;(try clear hb);(try clear hb2);(try clear hk);(try clear hi))|((with_reducible refine gate_dst (N:=5) rfl ?_);refine box_event ?hg (N:=5) ?hd (cs:=#[.int .i64 0,.bool false,.int .i64 0,.int .i64 0]) (t:=45) ?hr ?_;(case hd=>rfl);(case hg=>rfl);(case hr=>first|(go_simp;done)|(go_simp;rfl));intro gb282 hg w18 hbox hb;have n0_:=m_ (Kd.R_below (Kd.R_elderB (by (with_reducible repeat (first|apply Kd.R_alloc|apply Kd.R_drewN|apply Kd.R_drew));exact HO_3.out) gb282 (Nat.le_of_eq hg.symm)) hb);have n1_:=m_ (l5_ (by repeat (first|(with_reducible first|exact HB.out|apply l1_|apply l2_|apply l3_)|exact HB.out)) hb);have n2_:=m_ (hbox);have n3_:=m_ ((by rw [hg];exact (l6_ (by repeat (first|(with_reducible first|exact HB.out|apply l1_|apply l2_|apply l3_)|exact HB.out))) : w.heap.size ≤ gb282));have n4_:=m_ ((by rw [hg];exact (l6_ (by repeat (first|(with_reducible first|exact HB.out|apply l1_|apply l2_|apply l3_)|exact HB.out))) : w.heap.size ≤ gb282));clear HO_3;clear HB;have HO_3:=n0_;have HB:=n1_;have BK282:=n2_;have GW282:=n3_;have GE282:=n4_;clear n0_ n1_ n2_ n3_ n4_;clear hb hbox hg;have hcz19_0 : w18.cell? ⟨gb282,0,none⟩ = some (.int .i64 0):=(c_ BK282.out 0).trans rfl;have hcz19_1 : w18.cell? ⟨gb282,1,none⟩ = some (.bool false):=(c_ BK282.out 1).trans rfl;have hcz19_2 : w18.cell? ⟨gb282,2,none⟩ = some (.int .i64 0):=(c_ BK282.out 2).trans rfl;have hcz19_3 : w18.cell? ⟨gb282,3,none⟩ = some (.int .i64 0):=(c_ BK282.out 3).trans rfl;have hfz19_0:=f_ BK282.out 0;have hfz19_1:=f_ BK282.out 1;have hfz19_2:=f_ BK282.out 2;have hfz19_3:=f_ BK282.out 3)|((with_reducible refine gate_builtin (b:=.append) (xs:=#[.tmp 18,.tmp 20]) rfl ?_);at_builtin;refine Kd.R_append k45 (w0:=w) w.heap.size rfl (.tmp 18) (.tmp 20) 38 45 (.agg #[(.int .i64 0),(.bool false),(.int .i64 0),(.int .i64 0)]) 32 rfl Tryd.underlying38 info45 rfl (by decide) (by omega) u3 x3_1 (⟨t278,t279,(⟨t280,t281⟩ : S43)⟩ : S45) [.int .i64 t278,.bool t279,.int .i64 t280,.int .i64 t281] (fun k_=>k_ ≠ gb282) (fun _=>False) rfl (by first|(go_simp;done)|(go_simp;rfl)) ?aP (fun _ hk=>hk.elim) ?aF ?aO ?aB ?aS ?aL ?_;(case aP=>exact k45_mkM _ _ _ (⟨t278,t279,(⟨t280,t281⟩ : S43)⟩ : S45));(case aB=>exact (by repeat (first|(with_reducible first|exact HB.out|apply l1_|apply l2_|apply l3_|refine l4_ ?_ GE282.out)|exact HB.out)));(case aF=>exact (fun k_ hk=>Kd.freshB (g:=gb282) (o:=.cells #[.int .i64 t278,.bool t279,.int .i64 t280,.int .i64 t281] 45 (0,0)) (by (with_reducible repeat first|apply b1_|apply b2_|apply b3_);refine blk_put (cs:=#[.int .i64 t278,.bool t279,.int .i64 t280,.int .i64 0]) ?_ 3 _ rfl;(with_reducible repeat first|apply b1_|apply b2_|apply b3_);refine blk_put (cs:=#[.int .i64 t278,.bool t279,.int .i64 0,.int .i64 0]) ?_ 2 _ rfl;(with_reducible repeat first|apply b1_|apply b2_|apply b3_);refine blk_put (cs:=#[.int .i64 t278,.bool false,.int .i64 0,.int .i64 0]) ?_ 1 _ rfl;(with_reducible repeat first|apply b1_|apply b2_|apply b3_);refine blk_put (cs:=#[.int .i64 0,.bool false,.int .i64 0,.int .i64 0]) ?_ 0 _ rfl;(with_reducible repeat first|apply b1_|apply b2_|apply b3_);exact BK282.out) k_ hk));(case aO=>exact (by (with_reducible repeat (first|apply Kd.R_alloc|apply Kd.R_drewN|apply Kd.R_drew));exact Kd.R_mono (Kd.R_far (p:=⟨gb282,3,none⟩) (Kd.R_far (p:=⟨gb282,2,none⟩) (Kd.R_far (p:=⟨gb282,1,none⟩) (Kd.R_far (p:=⟨gb282,0,none⟩) (Kd.R_mono HO_3.out (fun k_ hk=>(⟨hk,hk.2⟩ : _ ∧ k_ ≠ gb282))) (fun _ hk=>hk.2) (.int .i64 t278)) (fun _ hk=>hk.2) (.bool t279)) (fun _ hk=>hk.2) (.int .i64 t280)) (fun _ hk=>hk.2) (.int .i64 t281)) (fun _ hk=>hk.1.2)));(case aS=>exact (l6_ (by repeat (first|(with_reducible first|exact HB.out|apply l1_|apply l2_|apply l3_|refine l4_ ?_ GE282.out)|exact HB.out))));(case aL=>have:=LMc14.out;omega);intro v284 w20 ho hb hg hat;rw [← Ny283.out] at ho;have n0_:=m_ (blk_grown (g:=gb282) (o:=.cells #[.int .i64 t278,.bool t279,.int .i64 t280,.int .i64 t281] 45 (0,0)) (by (with_reducible repeat first|apply b1_|apply b2_|apply b3_);refine blk_put (cs:=#[.int .i64 t278,.bool t279,.int .i64 t280,.int .i64 0]) ?_ 3 _ rfl;(with_reducible repeat first|apply b1_|apply b2_|apply b3_);refine blk_put (cs:=#[.int .i64 t278,.bool t279,.int .i64 0,.int .i64 0]) ?_ 2 _ rfl;(with_reducible repeat first|apply b1_|apply b2_|apply b3_);refine blk_put (cs:=#[.int .i64 t278,.bool false,.int .i64 0,.int .i64 0]) ?_ 1 _ rfl;(with_reducible repeat first|apply b1_|apply b2_|apply b3_);refine blk_put (cs:=#[.int .i64 0,.bool false,.int .i64 0,.int .i64 0]) ?_ 0 _ rfl;(with_reducible repeat first|apply b1_|apply b2_|apply b3_);exact BK282.out) hg (Kd.R_away HO_3.out (fun _ hk=>hk.2)));have n1_:=m_ (hb);have n2_:=m_ (ho);clear BK282;clear HB;clear HO_3;have BK282:=n0_;have HB:=n1_;have HO285:=n2_;clear n0_ n1_ n2_;clear ho hb hg hat;have hcz21_0 : w20.cell? ⟨gb282,0,none⟩ = some (.int .i64 t278):=(c_ BK282.out 0).trans rfl;have hcz21_1 : w20.cell? ⟨gb282,1,none⟩ = some (.bool t279):=(c_ BK282.out 1).trans rfl;have hcz21_2 : w20.cell? ⟨gb282,2,none⟩ = some (.int .i64 t280):=(c_ BK282.out 2).trans rfl;have hcz21_3 : w20.cell? ⟨gb282,3,none⟩ = some (.int .i64 t281):=(c_ BK282.out 3).trans rfl;have hfz21_0:=f_ BK282.out 0;have hfz21_1:=f_ BK282.out 1;have hfz21_2:=f_ BK282.out 2;have hfz21_3:=f_ BK282.out 3))
         go_roundg k1
         case measure=>have:=HK1.out;omega
         case rel=>exact ⟨(y283),(x4_1.extract (t278 : Int).toNat x4_1.size),(by first|rfl|(simp;done)|(simp [*];done)),H',⟨by have:=HK1.out;omega⟩,⟨by (with_reducible repeat (first|apply Kd.R_alloc|apply Kd.R_drewN|apply Kd.R_drew));exact Kd.R_mono HO285.out (fun _ hk=>trivial)⟩,⟨by repeat (first|(with_reducible first|exact HB.out|apply l1_|apply l2_|apply l3_|refine l4_ ?_ GE282.out)|exact HB.out)⟩⟩
        ·rw [if_neg c16] at H
         exact absurd H (by simp)
       ·rw [if_neg c15] at H
        exact absurd H (by simp)
      ·rw [if_neg c14] at H
       exact absurd H (by simp)
  ·rw [if_neg c5] at H
   exact absurd H (by simp)
 ·rw [if_neg c4] at H
  exact absurd H (by simp)

/-! ### impl_StreamOk: function 11 -/
def impl_StreamOk.f (k : Nat) (a0_0 : ByteArray) (l0_1 : List (S41)) : Option (Bool) := (impl_TextOk.f a0_0).bind fun t287 => (if t287 = true then ((impl_pieces.f k a0_0).bind fun t288 => ((slices_EqualFunc_Piece.f k l0_1 t288).bind fun t291 => (some t291))) else (some false))
theorem impl_StreamOk.mono : ∀ a0 a1 k, LeO (impl_StreamOk.f k a0 a1) (impl_StreamOk.f (k + 1) a0 a1) := by
 intro a0 a1 k
 unfold impl_StreamOk.f
 repeat' first
   | (with_reducible exact impl_pieces.mono _ _)
   | (with_reducible exact slices_EqualFunc_Piece.mono _ _ _)
   | (with_reducible exact LeO.refl _)
   | (with_reducible exact LeO.none _)
   | (with_reducible refine LeO.ite ?_ ?_)
   | (with_reducible refine LeO.bind ?_ (fun _ => ?_))
   | exact impl_pieces.mono _ _
   | exact slices_EqualFunc_Piece.mono _ _ _
   | exact LeO.none _
   | refine LeO.ite ?_ ?_
   | refine LeO.bind ?_ (fun _ => ?_)
set_option maxHeartbeats 8000000 in
set_option maxRecDepth 100000 in
theorem impl_StreamOk.calls (k : Nat) (a0_0 : ByteArray) (A0_1 : Option Addr) (c0_1 : Nat) (l0_1 : List (S41)) (r : Bool) (w : World) (hr0_1 : Kd.C k41 w A0_1 l0_1.length l0_1) (hc0_1 : l0_1.length ≤ c0_1) (hG : GV w) (h : impl_StreamOk.f k a0_0 l0_1 = some r) :
  Calls Tryd.prog 11 #[.agg #[.string a0_0,.slice A0_1 l0_1.length c0_1]] w fun e w'=>e = .returned (.bool r) ∧ Below w.heap.size w w':=by
 have hu29:=Tryd.underlying29
 have HG:=m_ hG
 clear hG
 have HR0_1:=m_ hr0_1
 have HC0_1:=m_ hc0_1
 clear hr0_1 hc0_1
 have HB:=m_ (Below.refl w.heap.size w)
 have H : ((impl_TextOk.f a0_0).bind fun t287=>(if t287 = true then ((impl_pieces.f k a0_0).bind fun t288=>((slices_EqualFunc_Piece.f k l0_1 t288).bind fun t291=>(some t291))) else (some false))) = some r:=h
 clear h
 replace H:=Option.bind_eq_some_iff.mp H
 obtain ⟨t287,A20,H⟩:=H
 replace H : (if t287 = true then ((impl_pieces.f k a0_0).bind fun t288=>((slices_EqualFunc_Piece.f k l0_1 t288).bind fun t291=>(some t291))) else (some false)) = some r:=H
 have A2:=m_ A20
 clear A20
 by_cases c3 : t287 = true
 ·subst c3
  have H1 : ((impl_pieces.f k a0_0).bind fun t288=>((slices_EqualFunc_Piece.f k l0_1 t288).bind fun t291=>(some t291))) = some r:=by rw [if_pos rfl] at H;exact H
  clear H
  have H:=H1
  clear H1
  replace H:=Option.bind_eq_some_iff.mp H
  obtain ⟨t288,A40,H⟩:=H
  replace H : ((slices_EqualFunc_Piece.f k l0_1 t288).bind fun t291=>(some t291)) = some r:=H
  have A4:=m_ A40
  clear A40
  replace H:=Option.bind_eq_some_iff.mp H
  obtain ⟨t291,A50,H⟩:=H
  replace H : (some t291) = some r:=H
  have A5:=m_ A50
  clear A50
  obtain rfl:=Option.some.inj H
  go_enter Tryd.func11,Tryd.ntmps11
  try go_wp2_with (first|((with_reducible refine gate_dst (N:=1) rfl ?_);refine box_event ?hg (N:=1) ?hd (cs:=#[.string a0_0,.slice A0_1 l0_1.length c0_1]) (t:=29) ?hr ?_;(case hd=>rfl);(case hg=>rfl);(case hr=>first|(go_simp;done)|(go_simp;rfl));intro gb286 hg w6 hbox hb;have n0_:=m_ (l5_ (by repeat (first|(with_reducible first|exact HB.out|apply l1_|apply l2_|apply l3_)|exact HB.out)) hb);have n1_:=m_ (hbox);have n2_:=m_ ((by rw [hg];exact (l6_ (by repeat (first|(with_reducible first|exact HB.out|apply l1_|apply l2_|apply l3_)|exact HB.out))) : w.heap.size ≤ gb286));have n3_:=m_ ((by rw [hg];exact (l6_ (by repeat (first|(with_reducible first|exact HB.out|apply l1_|apply l2_|apply l3_)|exact HB.out))) : w.heap.size ≤ gb286));clear HB;have HB:=n0_;have BK286:=n1_;have GW286:=n2_;have GE286:=n3_;clear n0_ n1_ n2_ n3_;clear hb hbox hg;have hcz7_0 : w6.cell? ⟨gb286,0,none⟩ = some (.string a0_0):=(c_ BK286.out 0).trans rfl;have hcz7_1 : w6.cell? ⟨gb286,1,none⟩ = some (.slice A0_1 l0_1.length c0_1):=(c_ BK286.out 1).trans rfl)|((with_reducible refine gate_callee (f:=25) rfl ?_);refine goesL_ (some 5) rfl rfl Tryd.func25 (by kernel_rfl) rfl #[.string a0_0] rfl (by (try simp only [List.map_toArray,List.map_cons,List.map_nil]);first|done|rfl|(simp only [List.length_drop,List.length_take];rfl)) ?_;(with_reducible refine (impl_TextOk.calls a0_0 true _ A2.out).mono ?_);rintro e w8 ⟨rfl,hb⟩;refine ⟨_,rfl,?_⟩;have n0_:=m_ (blk_below (g:=gb286) (o:=.cells #[.string a0_0,.slice A0_1 l0_1.length c0_1] 29 (0,0)) (by (with_reducible repeat first|apply b1_|apply b2_|apply b3_);exact BK286.out) hb);have n1_:=m_ (l5_ (by repeat (first|(with_reducible first|exact HB.out|apply l1_|apply l2_|apply l3_|refine l4_ ?_ GE286.out)|exact HB.out)) hb);clear BK286;clear HB;have BK286:=n0_;have HB:=n1_;clear n0_ n1_;(try clear hb);(try clear hb2);(try clear hk);(try clear hi)))
  have n0_:=m_ (b2_ BK286.out)
  have n1_:=m_ (l3_ HB.out)
  clear BK286
  clear HB
  have BK286:=n0_
  have HB:=n1_
  clear n0_ n1_
  refine start_ (n:=7) (S:=fun w'=>w'.cell? ⟨gb286,0,none⟩ = some (.string a0_0) ∧ w'.cell? ⟨gb286,1,none⟩ = some (.slice A0_1 l0_1.length c0_1)) (ds:=[]) #[false,false,false,false,false,false,false] (by kernel_rfl) rfl rfl ⟨(c_ BK286.out 0).trans rfl,(c_ BK286.out 1).trans rfl⟩ (fun hHeld=>?_)
  generalize w8.drew = w9 at BK286 HB hHeld ⊢
  refine pure_ (i:=0) (N:=some 7) (v:=?_) (a':=?_) #[true,false,false,false,false,false,false] rfl rfl (by kernel_rfl) (fun _ _ _ h=>h) (Or.inl ⟨by rfl,?_⟩) ?_ ?_
  rotate_left
  ·intro w'
   go_simp
   with_reducible rfl
  rotate_left
  ·simp only [Act.put,s1_,s2_,s3_,i64_w,i32_w]
   rfl
  refine pure_ (i:=2) (N:=some 9) (v:=?_) (a':=?_) #[true,false,true,false,false,false,false] rfl rfl (by kernel_rfl) (fun _ _ _ h=>h) (Or.inl ⟨by rfl,?_⟩) ?_ ?_
  rotate_left
  ·intro w'
   go_simp
   with_reducible rfl
  rotate_left
  ·simp only [Act.put,s1_,s2_,s3_,i64_w,i32_w]
   rfl
  refine take_ (i:=1) (N:=some 8) (v:=?_) (a':=?_) #[true,true,true,false,false,false,false] rfl rfl (by kernel_rfl) (fun _ _ _ h=>h) (Or.inl ⟨by rfl,?_⟩) hHeld ?_ ?_
  rotate_left
  ·rintro w' ⟨s0,s1⟩
   go_simp
   with_reducible rfl
  rotate_left
  ·simp only [Act.put,s1_,s2_,s3_,i64_w,i32_w]
   rfl
  refine take_ (i:=3) (N:=some 10) (v:=?_) (a':=?_) #[true,true,true,true,false,false,false] rfl rfl (by kernel_rfl) (fun _ _ _ h=>h) (Or.inl ⟨by rfl,?_⟩) hHeld ?_ ?_
  rotate_left
  ·rintro w' ⟨s0,s1⟩
   go_simp
   with_reducible rfl
  rotate_left
  ·simp only [Act.put,s1_,s2_,s3_,i64_w,i32_w]
   rfl
  refine one_ (i:=4) (N:=some 11) #[true,true,true,true,true,false,false] rfl rfl (by kernel_rfl) (by decide) (fun K hK=>?_)
  refine goes_ Tryd.func27 (by kernel_rfl) rfl #[.string a0_0] (by rfl) rfl rfl (by (try simp only [List.map_toArray,List.map_cons,List.map_nil]);first|done|rfl|(simp only [List.length_drop,List.length_take];rfl)) ?_
  with_reducible refine (impl_pieces.calls k a0_0 t288 _ ?side1 A4.out).mono ?_
  (case side1=>first|(with_reducible exact HG.out)|exact GV_below HG.out (by repeat (first|(with_reducible first|exact HB.out|apply l1_|apply l2_|apply l3_|refine l4_ ?_ GE286.out)|exact HB.out)))
  rintro e w10 ⟨v289,rfl,ho0,hb⟩
  refine ⟨_,rfl,?_⟩
  have n0_:=m_ (Kd.R_lower ho0 (l6_ (by repeat (first|(with_reducible first|exact HB.out|apply l1_|apply l2_|apply l3_|refine l4_ ?_ GE286.out)|exact HB.out))))
  have n1_:=m_ (blk_below (g:=gb286) (o:=.cells #[.string a0_0,.slice A0_1 l0_1.length c0_1] 29 (0,0)) (by (with_reducible repeat first|apply b1_|apply b2_|apply b3_);exact BK286.out) hb)
  have n2_:=m_ (l5_ (by repeat (first|(with_reducible first|exact HB.out|apply l1_|apply l2_|apply l3_|refine l4_ ?_ GE286.out)|exact HB.out)) hb)
  clear BK286
  clear HB
  have HO290:=n0_
  have BK286:=n1_
  have HB:=n2_
  clear n0_ n1_ n2_
  (try clear hb)
  (try clear hb2)
  (try clear hk)
  (try clear hi)
  (try clear ho0)
  obtain ⟨Ao11,co11,eo11⟩:=Kd.R_slice HO290.out
  (first|subst eo11|(injection eo11 with f1_ f2_ f3_;have f4_:=f1_.symm;have f5_:=f3_.symm;clear f1_ f2_ f3_;subst f4_;subst f5_))
  refine hK.out _ _ ⟨(c_ BK286.out 0).trans rfl,(c_ BK286.out 1).trans rfl⟩ (fun hHeld=>?_)
  clear hK K
  refine norm_ (a':=?_) ?_ ?_
  rotate_left
  ·show Act.put _ (some 11) _ = _
   simp only [Act.put,s1_,s2_,s3_,i64_w,i32_w]
   rfl
  refine one_ (i:=5) (N:=some 12) #[true,true,true,true,true,true,false] rfl rfl (by kernel_rfl) (by decide) (fun K hK=>?_)
  refine goes_ Tryd.func26 (by kernel_rfl) rfl #[.slice A0_1 l0_1.length c0_1,.slice Ao11 t288.length co11,.func (.func 28) #[] #[]] (by rfl) rfl rfl (by (try simp only [List.map_toArray,List.map_cons,List.map_nil]);first|done|rfl|(simp only [List.length_drop,List.length_take];rfl)) ?_
  with_reducible refine (slices_EqualFunc_Piece.calls k _ _ l0_1 _ _ t288 t291 _ ?side1 ?side2 ?side3 ?side4 A5.out).mono ?_
  (case side1=>repeat (first|exact (Kd.C_below HR0_1.out HB.out)|(with_reducible refine Kd.C_alloc ?_ _)|(with_reducible refine Kd.C_drewN ?_ _)|(with_reducible refine Kd.C_drew ?_)))
  (case side2=>exact HC0_1.out)
  (case side3=>repeat (first|exact (Kd.R_reads' HO290.out).2.2|(with_reducible refine Kd.C_alloc ?_ _)|(with_reducible refine Kd.C_drewN ?_ _)|(with_reducible refine Kd.C_drew ?_)))
  (case side4=>exact (Kd.R_reads' HO290.out).2.1)
  rintro e w12 ⟨rfl,hb⟩
  refine ⟨_,rfl,?_⟩
  have n0_:=m_ (Kd.R_below (by (with_reducible repeat (first|apply Kd.R_alloc|apply Kd.R_drewN|apply Kd.R_drew));exact HO290.out) hb)
  have n1_:=m_ (blk_below (g:=gb286) (o:=.cells #[.string a0_0,.slice A0_1 l0_1.length c0_1] 29 (0,0)) (by (with_reducible repeat first|apply b1_|apply b2_|apply b3_);exact BK286.out) hb)
  have n2_:=m_ (l5_ (by repeat (first|(with_reducible first|exact HB.out|apply l1_|apply l2_|apply l3_|refine l4_ ?_ GE286.out)|exact HB.out)) hb)
  clear HO290
  clear BK286
  clear HB
  have HO290:=n0_
  have BK286:=n1_
  have HB:=n2_
  clear n0_ n1_ n2_
  (try clear hb)
  (try clear hb2)
  (try clear hk)
  (try clear hi)
  refine hK.out _ _ ⟨(c_ BK286.out 0).trans rfl,(c_ BK286.out 1).trans rfl⟩ (fun hHeld=>?_)
  clear hK K
  refine norm_ (a':=?_) ?_ ?_
  rotate_left
  ·show Act.put _ (some 12) _ = _
   simp only [Act.put,s1_,s2_,s3_,i64_w,i32_w]
   rfl
  refine pure_ (i:=6) (N:=some 2) (v:=?_) (a':=?_) #[true,true,true,true,true,true,true] rfl rfl (by kernel_rfl) (fun _ _ _ h=>h) (Or.inl ⟨by rfl,?_⟩) ?_ ?_
  rotate_left
  ·intro w'
   go_simp
   with_reducible rfl
  rotate_left
  ·simp only [Act.put,s1_,s2_,s3_,i64_w,i32_w]
   rfl
  refine done_ (by kernel_rfl) ?_
  try go_wp2
  go_ret
  exact ⟨by first|rfl|(simp [e1_,e2_] <;> rfl)|(simp [*,e1_,e2_] <;> rfl)|(simp [e1_,e2_,pk_empty1,pk_empty2];done)|(simp [*,e1_,e2_,pk_empty1,pk_empty2];done),by repeat (first|(with_reducible first|exact HB.out|apply l1_|apply l2_|apply l3_|refine l4_ ?_ GE286.out)|exact HB.out)⟩
 ·replace c3:=Bool.eq_false_iff.mpr c3
  subst c3
  have H1 : (some false) = some r:=by rw [if_neg (show ¬ (false = true) by decide)] at H;exact H
  clear H
  have H:=H1
  clear H1
  obtain rfl:=Option.some.inj H
  go_enter Tryd.func11,Tryd.ntmps11
  go_wp2_with (first|((with_reducible refine gate_dst (N:=1) rfl ?_);refine box_event ?hg (N:=1) ?hd (cs:=#[.string a0_0,.slice A0_1 l0_1.length c0_1]) (t:=29) ?hr ?_;(case hd=>rfl);(case hg=>rfl);(case hr=>first|(go_simp;done)|(go_simp;rfl));intro gb286 hg w13 hbox hb;have n0_:=m_ (l5_ (by repeat (first|(with_reducible first|exact HB.out|apply l1_|apply l2_|apply l3_)|exact HB.out)) hb);have n1_:=m_ (hbox);have n2_:=m_ ((by rw [hg];exact (l6_ (by repeat (first|(with_reducible first|exact HB.out|apply l1_|apply l2_|apply l3_)|exact HB.out))) : w.heap.size ≤ gb286));have n3_:=m_ ((by rw [hg];exact (l6_ (by repeat (first|(with_reducible first|exact HB.out|apply l1_|apply l2_|apply l3_)|exact HB.out))) : w.heap.size ≤ gb286));clear HB;have HB:=n0_;have BK286:=n1_;have GW286:=n2_;have GE286:=n3_;clear n0_ n1_ n2_ n3_;clear hb hbox hg;have hcz14_0 : w13.cell? ⟨gb286,0,none⟩ = some (.string a0_0):=(c_ BK286.out 0).trans rfl;have hcz14_1 : w13.cell? ⟨gb286,1,none⟩ = some (.slice A0_1 l0_1.length c0_1):=(c_ BK286.out 1).trans rfl)|((with_reducible refine gate_callee (f:=25) rfl ?_);refine goesL_ (some 5) rfl rfl Tryd.func25 (by kernel_rfl) rfl #[.string a0_0] rfl (by (try simp only [List.map_toArray,List.map_cons,List.map_nil]);first|done|rfl|(simp only [List.length_drop,List.length_take];rfl)) ?_;(with_reducible refine (impl_TextOk.calls a0_0 false _ A2.out).mono ?_);rintro e w15 ⟨rfl,hb⟩;refine ⟨_,rfl,?_⟩;have n0_:=m_ (blk_below (g:=gb286) (o:=.cells #[.string a0_0,.slice A0_1 l0_1.length c0_1] 29 (0,0)) (by (with_reducible repeat first|apply b1_|apply b2_|apply b3_);exact BK286.out) hb);have n1_:=m_ (l5_ (by repeat (first|(with_reducible first|exact HB.out|apply l1_|apply l2_|apply l3_|refine l4_ ?_ GE286.out)|exact HB.out)) hb);clear BK286;clear HB;have BK286:=n0_;have HB:=n1_;clear n0_ n1_;(try clear hb);(try clear hb2);(try clear hk);(try clear hi)))
  go_ret
  exact ⟨by first|rfl|(simp [e1_,e2_] <;> rfl)|(simp [*,e1_,e2_] <;> rfl)|(simp [e1_,e2_,pk_empty1,pk_empty2];done)|(simp [*,e1_,e2_,pk_empty1,pk_empty2];done),by repeat (first|(with_reducible first|exact HB.out|apply l1_|apply l2_|apply l3_|refine l4_ ?_ GE286.out)|exact HB.out)⟩

end Go.Proofs.YtkcjmmhleepjeaaDoor.A
