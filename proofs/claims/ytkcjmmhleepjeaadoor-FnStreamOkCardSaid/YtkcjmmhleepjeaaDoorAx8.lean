-- Printed by myprint.py (wip/tools) out of the translation. Not trusted: Lean checks it.
import Derived.Test.YtkcjmmhleepjeaaDoorAx0
import Derived.Test.YtkcjmmhleepjeaaDoorAx6
import Derived.Test.YtkcjmmhleepjeaaDoorAx7
namespace Go.Proofs.YtkcjmmhleepjeaaDoor.A
open Go.RowKit Go.Proofs.YtkcjmmhleepjeaaDoorW.PrintWords Go.Proofs.YtkcjmmhleepjeaaDoorW.PrintLast Go.Proofs.YtkcjmmhleepjeaaDoorW.PrintMore
attribute [local go_sem] max2_int min2_int max_two min_two max_three min_three max_four min_four
set_option linter.unusedVariables false
set_option maxHeartbeats 8000000
set_option maxRecDepth 100000
set_option linter.unusedSimpArgs false

/-! ### impl_readName: function 61 -/
def impl_readName.f (a0 : ByteArray) : Option (Int × Int × Bool) := (strings_Cut.f a0 (⟨#[59]⟩ : ByteArray)).bind fun bt233 => ((impl_EndRead.f bt233.1).bind fun bt236 => (if bt233.2.2 = true then (some (bt236.1, bt236.2.1, bt236.2.2)) else (some (bt236.1, bt236.2.1, false))))
theorem impl_readName.calls (a0 : ByteArray) (r1 : Int) (r2 : Int) (r3 : Bool) (w : World) (hG : GV w) (h : impl_readName.f a0 = some (r1, r2, r3)) :
  Calls Tryd.prog 61 #[.string a0] w fun e w'=>e = .returned (.tuple #[.agg #[.int .i64 r1,.int .i64 r2],.bool r3]) ∧ Below w.heap.size w w':=by
 have hu43:=Tryd.underlying43
 have HG:=m_ hG
 clear hG
 have HB:=m_ (Below.refl w.heap.size w)
 have H : ((strings_Cut.f a0 (⟨#[59]⟩ : ByteArray)).bind fun bt233=>((impl_EndRead.f bt233.1).bind fun bt236=>(if bt233.2.2 = true then (some (bt236.1,bt236.2.1,bt236.2.2)) else (some (bt236.1,bt236.2.1,false))))) = some (r1,r2,r3):=h
 clear h
 replace H:=Option.bind_eq_some_iff.mp H
 obtain ⟨⟨t233,t234,t235⟩,A20,H⟩:=H
 replace H : ((impl_EndRead.f t233).bind fun bt236=>(if t235 = true then (some (bt236.1,bt236.2.1,bt236.2.2)) else (some (bt236.1,bt236.2.1,false)))) = some (r1,r2,r3):=H
 have A2:=m_ A20
 clear A20
 replace H:=Option.bind_eq_some_iff.mp H
 obtain ⟨⟨t236,t237,t238⟩,A30,H⟩:=H
 replace H : (if t235 = true then (some (t236,t237,t238)) else (some (t236,t237,false))) = some (r1,r2,r3):=H
 have A3:=m_ A30
 clear A30
 by_cases c4 : t235 = true
 ·subst c4
  have H1 : (some (t236,t237,t238)) = some (r1,r2,r3):=by rw [if_pos rfl] at H;exact H
  clear H
  have H:=H1
  clear H1
  simp only [Option.some.injEq,Prod.mk.injEq] at H
  obtain ⟨rfl,rfl,rfl⟩:=H
  go_enter Tryd.func61,Tryd.ntmps61
  go_wp2_with (first|((with_reducible refine gate_dst (N:=2) rfl ?_);refine box_event ?hg (N:=2) ?hd (cs:=#[.int .i64 0,.int .i64 0]) (t:=43) ?hr ?_;(case hd=>rfl);(case hg=>rfl);(case hr=>first|(go_simp;done)|(go_simp;rfl));intro gb232 hg w5 hbox hb;have n0_:=m_ (l5_ (puL HB.out) hb);have n1_:=m_ (hbox);have n2_:=m_ ((by rw [hg];exact (l6_ (puL HB.out)) : w.heap.size ≤ gb232));have n3_:=m_ ((by rw [hg];exact (l6_ (puL HB.out)) : w.heap.size ≤ gb232));revert n0_ n1_ n2_ n3_;clear HB;intro HB BK232 GW232 GE232;clear hb hbox hg)|((with_reducible refine gate_callee (f:=74) rfl ?_);refine goesL_ (some 11) rfl rfl Tryd.func74 (by kernel_rfl) rfl #[.string a0,.string (⟨#[59]⟩ : ByteArray)] rfl lens ?_;(with_reducible refine (strings_Cut.calls a0 (⟨#[59]⟩ : ByteArray) t233 t234 true _ A2.out).mono ?_);rintro e w6 ⟨rfl,hb⟩;refine ⟨_,rfl,?_⟩;have n0_:=m_ (blk_below (g:=gb232) (o:=.cells #[.int .i64 0,.int .i64 0] 43 (0,0)) (puB BK232.out) hb);have n1_:=m_ (l5_ (puM HB.out GE232.out) hb);revert n0_ n1_;clear BK232 HB;intro BK232 HB;(try clear hb);(try clear hb2);(try clear hk);(try clear hi))|((with_reducible refine gate_callee (f:=75) rfl ?_);refine goesL_ (some 17) rfl rfl Tryd.func75 (by kernel_rfl) rfl #[.string t233] rfl lens ?_;(with_reducible refine (impl_EndRead.calls t233 t236 t237 t238 _ ?side1 A3.out).mono ?_);(case side1=>first|(with_reducible exact HG.out)|exact GV_below HG.out (puM HB.out GE232.out));rintro e w7 ⟨rfl,hb⟩;refine ⟨_,rfl,?_⟩;have n0_:=m_ (blk_below (g:=gb232) (o:=.cells #[.int .i64 0,.int .i64 0] 43 (0,0)) (puB BK232.out) hb);have n1_:=m_ (l5_ (puM HB.out GE232.out) hb);revert n0_ n1_;clear BK232 HB;intro BK232 HB;(try clear hb);(try clear hb2);(try clear hk);(try clear hi))|((with_reducible refine gate_dst (N:=7) rfl ?_);refine box_event ?hg (N:=7) ?hd (cs:=#[.int .i64 0,.int .i64 0]) (t:=43) ?hr ?_;(case hd=>rfl);(case hg=>rfl);(case hr=>first|(go_simp;done)|(go_simp;rfl));intro gb239 hg w8 hbox hb;have n0_:=m_ (blk_below (g:=gb232) (o:=.cells #[.int .i64 0,.int .i64 0] 43 (0,0)) (puB BK232.out) hb);have n1_:=m_ (l5_ (puM HB.out GE232.out) hb);have n2_:=m_ (hbox);have n3_:=m_ ((by rw [hg];exact (l6_ (puM HB.out GE232.out)) : w.heap.size ≤ gb239));have n4_:=n3_;have n5_:=m_ ((by rw [hg];exact Nat.ne_of_lt (blk_lt (g:=gb232) (o:=.cells #[.int .i64 0,.int .i64 0] 43 (0,0)) (puB BK232.out)) : gb232 ≠ gb239));have n6_:=m_ n5_.out.symm;revert n0_ n1_ n2_ n3_ n4_ n5_ n6_;clear BK232 HB;intro BK232 HB BK239 GW239 GE239 NB232_239 NB239_232;clear hb hbox hg;have hnb9:=NB239_232.out;have hnc9:=NB232_239.out;have hcz10_0 : w8.cell? ⟨gb239,0,none⟩ = some (.int .i64 0):=(c_ BK239.out 0).trans rfl;have hcz10_1 : w8.cell? ⟨gb239,1,none⟩ = some (.int .i64 0):=(c_ BK239.out 1).trans rfl;have hfz10_0:=f_ BK239.out 0;have hfz10_1:=f_ BK239.out 1;have hcz11_0 : w8.cell? ⟨gb232,0,none⟩ = some (.int .i64 0):=(c_ BK232.out 0).trans rfl;have hcz11_1 : w8.cell? ⟨gb232,1,none⟩ = some (.int .i64 0):=(c_ BK232.out 1).trans rfl;have hfz11_0:=f_ BK232.out 0;have hfz11_1:=f_ BK232.out 1))
  refine bodyPost_ret (results_ct rfl _ _ gb232 43 #[.int .i64 t236,.int .i64 t237] (0,0) _ rfl (by (with_reducible repeat first|apply b1_|apply b2_|apply b3_);refine blk_put (cs:=#[.int .i64 t236,.int .i64 0]) ?_ 1 _ rfl;(with_reducible repeat first|apply b1_|apply b2_|apply b3_);refine blk_put (cs:=#[.int .i64 0,.int .i64 0]) ?_ 0 _ rfl;(with_reducible repeat first|apply b1_|apply b2_|apply b3_);refine b4_ ?_ NB232_239.out _;(with_reducible repeat first|apply b1_|apply b2_|apply b3_);refine b4_ ?_ NB232_239.out _;(with_reducible repeat first|apply b1_|apply b2_|apply b3_);exact BK232.out) Tryd.underlying43 rfl (by kernel_rfl)) rfl ?_
  exact ⟨eqs,puN HB.out GE232.out GE239.out⟩
 ·replace c4:=Bool.eq_false_iff.mpr c4
  subst c4
  have H1 : (some (t236,t237,false)) = some (r1,r2,r3):=by rw [if_neg (show ¬ (false = true) by decide)] at H;exact H
  clear H
  have H:=H1
  clear H1
  simp only [Option.some.injEq,Prod.mk.injEq] at H
  obtain ⟨rfl,rfl,rfl⟩:=H
  go_enter Tryd.func61,Tryd.ntmps61
  go_wp2_with (first|((with_reducible refine gate_dst (N:=2) rfl ?_);refine box_event ?hg (N:=2) ?hd (cs:=#[.int .i64 0,.int .i64 0]) (t:=43) ?hr ?_;(case hd=>rfl);(case hg=>rfl);(case hr=>first|(go_simp;done)|(go_simp;rfl));intro gb232 hg w12 hbox hb;have n0_:=m_ (l5_ (puL HB.out) hb);have n1_:=m_ (hbox);have n2_:=m_ ((by rw [hg];exact (l6_ (puL HB.out)) : w.heap.size ≤ gb232));have n3_:=m_ ((by rw [hg];exact (l6_ (puL HB.out)) : w.heap.size ≤ gb232));revert n0_ n1_ n2_ n3_;clear HB;intro HB BK232 GW232 GE232;clear hb hbox hg)|((with_reducible refine gate_callee (f:=74) rfl ?_);refine goesL_ (some 11) rfl rfl Tryd.func74 (by kernel_rfl) rfl #[.string a0,.string (⟨#[59]⟩ : ByteArray)] rfl lens ?_;(with_reducible refine (strings_Cut.calls a0 (⟨#[59]⟩ : ByteArray) t233 t234 false _ A2.out).mono ?_);rintro e w13 ⟨rfl,hb⟩;refine ⟨_,rfl,?_⟩;have n0_:=m_ (blk_below (g:=gb232) (o:=.cells #[.int .i64 0,.int .i64 0] 43 (0,0)) (puB BK232.out) hb);have n1_:=m_ (l5_ (puM HB.out GE232.out) hb);revert n0_ n1_;clear BK232 HB;intro BK232 HB;(try clear hb);(try clear hb2);(try clear hk);(try clear hi))|((with_reducible refine gate_callee (f:=75) rfl ?_);refine goesL_ (some 17) rfl rfl Tryd.func75 (by kernel_rfl) rfl #[.string t233] rfl lens ?_;(with_reducible refine (impl_EndRead.calls t233 t236 t237 t238 _ ?side1 A3.out).mono ?_);(case side1=>first|(with_reducible exact HG.out)|exact GV_below HG.out (puM HB.out GE232.out));rintro e w14 ⟨rfl,hb⟩;refine ⟨_,rfl,?_⟩;have n0_:=m_ (blk_below (g:=gb232) (o:=.cells #[.int .i64 0,.int .i64 0] 43 (0,0)) (puB BK232.out) hb);have n1_:=m_ (l5_ (puM HB.out GE232.out) hb);revert n0_ n1_;clear BK232 HB;intro BK232 HB;(try clear hb);(try clear hb2);(try clear hk);(try clear hi))|((with_reducible refine gate_dst (N:=7) rfl ?_);refine box_event ?hg (N:=7) ?hd (cs:=#[.int .i64 0,.int .i64 0]) (t:=43) ?hr ?_;(case hd=>rfl);(case hg=>rfl);(case hr=>first|(go_simp;done)|(go_simp;rfl));intro gb239 hg w15 hbox hb;have n0_:=m_ (blk_below (g:=gb232) (o:=.cells #[.int .i64 0,.int .i64 0] 43 (0,0)) (puB BK232.out) hb);have n1_:=m_ (l5_ (puM HB.out GE232.out) hb);have n2_:=m_ (hbox);have n3_:=m_ ((by rw [hg];exact (l6_ (puM HB.out GE232.out)) : w.heap.size ≤ gb239));have n4_:=n3_;have n5_:=m_ ((by rw [hg];exact Nat.ne_of_lt (blk_lt (g:=gb232) (o:=.cells #[.int .i64 0,.int .i64 0] 43 (0,0)) (puB BK232.out)) : gb232 ≠ gb239));have n6_:=m_ n5_.out.symm;revert n0_ n1_ n2_ n3_ n4_ n5_ n6_;clear BK232 HB;intro BK232 HB BK239 GW239 GE239 NB232_239 NB239_232;clear hb hbox hg;have hnb16:=NB239_232.out;have hnc16:=NB232_239.out;have hcz17_0 : w15.cell? ⟨gb239,0,none⟩ = some (.int .i64 0):=(c_ BK239.out 0).trans rfl;have hcz17_1 : w15.cell? ⟨gb239,1,none⟩ = some (.int .i64 0):=(c_ BK239.out 1).trans rfl;have hfz17_0:=f_ BK239.out 0;have hfz17_1:=f_ BK239.out 1;have hcz18_0 : w15.cell? ⟨gb232,0,none⟩ = some (.int .i64 0):=(c_ BK232.out 0).trans rfl;have hcz18_1 : w15.cell? ⟨gb232,1,none⟩ = some (.int .i64 0):=(c_ BK232.out 1).trans rfl;have hfz18_0:=f_ BK232.out 0;have hfz18_1:=f_ BK232.out 1))
  refine bodyPost_ret (results_ct rfl _ _ gb232 43 #[.int .i64 t236,.int .i64 t237] (0,0) _ rfl (by (with_reducible repeat first|apply b1_|apply b2_|apply b3_);refine blk_put (cs:=#[.int .i64 t236,.int .i64 0]) ?_ 1 _ rfl;(with_reducible repeat first|apply b1_|apply b2_|apply b3_);refine blk_put (cs:=#[.int .i64 0,.int .i64 0]) ?_ 0 _ rfl;(with_reducible repeat first|apply b1_|apply b2_|apply b3_);refine b4_ ?_ NB232_239.out _;(with_reducible repeat first|apply b1_|apply b2_|apply b3_);refine b4_ ?_ NB232_239.out _;(with_reducible repeat first|apply b1_|apply b2_|apply b3_);exact BK232.out) Tryd.underlying43 rfl (by kernel_rfl)) rfl ?_
  exact ⟨eqs,puN HB.out GE232.out GE239.out⟩

/-! ### impl_name: function 62 -/
def impl_name.f (a0_0 : Int) (a0_1 : Int) : Option (ByteArray) := (impl_EndText.f a0_0 a0_1).bind fun t241 => (if 1 + t241.size ≤ 9223372036854775807 then (if 1 + t241.size + 1 ≤ 9223372036854775807 then (some (((⟨#[64]⟩ : ByteArray) ++ t241) ++ (⟨#[59]⟩ : ByteArray))) else (none)) else (none))
theorem impl_name.calls (a0_0 : Int) (a0_1 : Int) (r : ByteArray) (w : World) (h : impl_name.f a0_0 a0_1 = some r) :
  Calls Tryd.prog 62 #[.agg #[.int .i64 a0_0,.int .i64 a0_1]] w fun e w'=>e = .returned (.string r) ∧ Below w.heap.size w w':=by
 have hu43:=Tryd.underlying43
 have HB:=m_ (Below.refl w.heap.size w)
 have H : ((impl_EndText.f a0_0 a0_1).bind fun t241=>(if 1 + t241.size ≤ 9223372036854775807 then (if 1 + t241.size + 1 ≤ 9223372036854775807 then (some (((⟨#[64]⟩ : ByteArray) ++ t241) ++ (⟨#[59]⟩ : ByteArray))) else (none)) else (none))) = some r:=h
 clear h
 replace H:=Option.bind_eq_some_iff.mp H
 obtain ⟨t241,A20,H⟩:=H
 replace H : (if 1 + t241.size ≤ 9223372036854775807 then (if 1 + t241.size + 1 ≤ 9223372036854775807 then (some (((⟨#[64]⟩ : ByteArray) ++ t241) ++ (⟨#[59]⟩ : ByteArray))) else (none)) else (none)) = some r:=H
 have A2:=m_ A20
 clear A20
 by_cases c3 : 1 + t241.size ≤ 9223372036854775807
 rotate_left
 ·rw [if_neg c3] at H
  exact absurd H (by simp)
 rw [if_pos c3] at H
 have c3b0:=eq_true c3
 have c3b1:=decide_eq_true c3
 try have c3b2 : (9223372036854775807 < 1 + t241.size) = False:=eq_false (Nat.not_lt.2 c3)
 by_cases c4 : 1 + t241.size + 1 ≤ 9223372036854775807
 ·rw [if_pos c4] at H
  have c4b0:=eq_true c4
  have c4b1:=decide_eq_true c4
  try have c4b2 : (9223372036854775807 < 1 + t241.size + 1) = False:=eq_false (Nat.not_lt.2 c4)
  obtain rfl:=Option.some.inj H
  go_enter Tryd.func62,Tryd.ntmps62
  go_wp2_with (first|((with_reducible refine gate_dst (N:=1) rfl ?_);refine box_event ?hg (N:=1) ?hd (cs:=#[.int .i64 a0_0,.int .i64 a0_1]) (t:=43) ?hr ?_;(case hd=>rfl);(case hg=>rfl);(case hr=>first|(go_simp;done)|(go_simp;rfl));intro gb240 hg w5 hbox hb;have n0_:=m_ (l5_ (puL HB.out) hb);have n1_:=m_ (hbox);have n2_:=m_ ((by rw [hg];exact (l6_ (puL HB.out)) : w.heap.size ≤ gb240));have n3_:=m_ ((by rw [hg];exact (l6_ (puL HB.out)) : w.heap.size ≤ gb240));revert n0_ n1_ n2_ n3_;clear HB;intro HB BK240 GW240 GE240;clear hb hbox hg;have hcz6_0 : w5.cell? ⟨gb240,0,none⟩ = some (.int .i64 a0_0):=(c_ BK240.out 0).trans rfl;have hcz6_1 : w5.cell? ⟨gb240,1,none⟩ = some (.int .i64 a0_1):=(c_ BK240.out 1).trans rfl)|((with_reducible refine gate_callee (f:=76) rfl ?_);refine goesL_ (some 4) rfl rfl Tryd.func76 (by kernel_rfl) rfl #[.agg #[.int .i64 a0_0,.int .i64 a0_1]] rfl lens ?_;(with_reducible refine (impl_EndText.calls a0_0 a0_1 t241 _ A2.out).mono ?_);rintro e w7 ⟨rfl,hb⟩;refine ⟨_,rfl,?_⟩;have n0_:=m_ (blk_below (g:=gb240) (o:=.cells #[.int .i64 a0_0,.int .i64 a0_1] 43 (0,0)) (puB BK240.out) hb);have n1_:=m_ (l5_ (puM HB.out GE240.out) hb);revert n0_ n1_;clear BK240 HB;intro BK240 HB;(try clear hb);(try clear hb2);(try clear hk);(try clear hi)))
  go_ret
  exact ⟨eqs,puM HB.out GE240.out⟩
 ·rw [if_neg c4] at H
  exact absurd H (by simp)

/-! ### impl_piece: function 46 -/
def impl_piece.f (a0 : ByteArray) : Option (Int × Bool × Int × Int) := (strings_CutPrefix.f a0 (⟨#[64]⟩ : ByteArray)).bind fun bt243 => (if bt243.2 = true then ((impl_readName.f bt243.1).bind fun bt245 => (if bt245.2.2 = true then ((impl_name.f bt245.1 bt245.2.1).bind fun t249 => (some ((t249.size : Int), true, bt245.1, bt245.2.1))) else (some (1, false, 0, 0)))) else (some (1, false, 0, 0)))
theorem impl_piece.calls (a0 : ByteArray) (r1 : Int) (r2 : Bool) (r3 : Int) (r4 : Int) (w : World) (hG : GV w) (h : impl_piece.f a0 = some (r1, r2, r3, r4)) :
  Calls Tryd.prog 46 #[.string a0] w fun e w'=>e = .returned (.agg #[.int .i64 r1,.bool r2,.int .i64 r3,.int .i64 r4]) ∧ Below w.heap.size w w':=by
 have hu45:=Tryd.underlying45
 have hu43:=Tryd.underlying43
 have HG:=m_ hG
 clear hG
 have HB:=m_ (Below.refl w.heap.size w)
 have H : ((strings_CutPrefix.f a0 (⟨#[64]⟩ : ByteArray)).bind fun bt243=>(if bt243.2 = true then ((impl_readName.f bt243.1).bind fun bt245=>(if bt245.2.2 = true then ((impl_name.f bt245.1 bt245.2.1).bind fun t249=>(some ((t249.size : Int),true,bt245.1,bt245.2.1))) else (some (1,false,0,0)))) else (some (1,false,0,0)))) = some (r1,r2,r3,r4):=h
 clear h
 replace H:=Option.bind_eq_some_iff.mp H
 obtain ⟨⟨t243,t244⟩,A20,H⟩:=H
 replace H : (if t244 = true then ((impl_readName.f t243).bind fun bt245=>(if bt245.2.2 = true then ((impl_name.f bt245.1 bt245.2.1).bind fun t249=>(some ((t249.size : Int),true,bt245.1,bt245.2.1))) else (some (1,false,0,0)))) else (some (1,false,0,0))) = some (r1,r2,r3,r4):=H
 have A2:=m_ A20
 clear A20
 by_cases c3 : t244 = true
 ·subst c3
  have H1 : ((impl_readName.f t243).bind fun bt245=>(if bt245.2.2 = true then ((impl_name.f bt245.1 bt245.2.1).bind fun t249=>(some ((t249.size : Int),true,bt245.1,bt245.2.1))) else (some (1,false,0,0)))) = some (r1,r2,r3,r4):=by rw [if_pos rfl] at H;exact H
  clear H
  have H:=H1
  clear H1
  replace H:=Option.bind_eq_some_iff.mp H
  obtain ⟨⟨t245,t246,t247⟩,A40,H⟩:=H
  replace H : (if t247 = true then ((impl_name.f t245 t246).bind fun t249=>(some ((t249.size : Int),true,t245,t246))) else (some (1,false,0,0))) = some (r1,r2,r3,r4):=H
  have A4:=m_ A40
  clear A40
  by_cases c5 : t247 = true
  ·subst c5
   have H1 : ((impl_name.f t245 t246).bind fun t249=>(some ((t249.size : Int),true,t245,t246))) = some (r1,r2,r3,r4):=by rw [if_pos rfl] at H;exact H
   clear H
   have H:=H1
   clear H1
   replace H:=Option.bind_eq_some_iff.mp H
   obtain ⟨t249,A60,H⟩:=H
   replace H : (some ((t249.size : Int),true,t245,t246)) = some (r1,r2,r3,r4):=H
   have A6:=m_ A60
   clear A60
   simp only [Option.some.injEq,Prod.mk.injEq] at H
   obtain ⟨rfl,rfl,rfl,rfl⟩:=H
   go_enter Tryd.func46,Tryd.ntmps46
   try go_wp2_with (first|((with_reducible refine gate_dst (N:=2) rfl ?_);refine box_event ?hg (N:=2) ?hd (cs:=#[.int .i64 0,.bool false,.int .i64 0,.int .i64 0]) (t:=45) ?hr ?_;(case hd=>rfl);(case hg=>rfl);(case hr=>first|(go_simp;done)|(go_simp;rfl));intro gb242 hg w7 hbox hb;have n0_:=m_ (l5_ (puL HB.out) hb);have n1_:=m_ (hbox);have n2_:=m_ ((by rw [hg];exact (l6_ (puL HB.out)) : w.heap.size ≤ gb242));have n3_:=m_ ((by rw [hg];exact (l6_ (puL HB.out)) : w.heap.size ≤ gb242));revert n0_ n1_ n2_ n3_;clear HB;intro HB BK242 GW242 GE242;clear hb hbox hg)|((with_reducible refine gate_callee (f:=60) rfl ?_);refine goesL_ (some 9) rfl rfl Tryd.func60 (by kernel_rfl) rfl #[.string a0,.string (⟨#[64]⟩ : ByteArray)] rfl lens ?_;(with_reducible refine (strings_CutPrefix.calls a0 (⟨#[64]⟩ : ByteArray) t243 true _ A2.out).mono ?_);rintro e w' ⟨rfl,⟨nd,rfl⟩⟩;refine ⟨_,rfl,?_⟩;(try (rw [drewN_self w7];generalize hq_ : World.drewN w7 _ = w7;have n0_ : Aside0 (w7.heap[gb242]? = some (.cells #[.int .i64 0,.bool false,.int .i64 0,.int .i64 0] 45 (0,0))):=⟨by rw [← hq_];exact (puB BK242.out)⟩;have n1_ : Aside0 (Below w.heap.size w w7):=⟨by rw [← hq_];exact (puM HB.out GE242.out)⟩;clear BK242 HB hq_;have BK242:=n0_;have HB:=n1_;clear n0_ n1_)))|((with_reducible refine gate_callee (f:=61) rfl ?_);refine goesL_ (some 15) rfl rfl Tryd.func61 (by kernel_rfl) rfl #[.string t243] rfl lens ?_;(with_reducible refine (impl_readName.calls t243 t245 t246 true _ ?side1 A4.out).mono ?_);(case side1=>first|(with_reducible exact HG.out)|exact GV_below HG.out (puM HB.out GE242.out));rintro e w8 ⟨rfl,hb⟩;refine ⟨_,rfl,?_⟩;have n0_:=m_ (blk_below (g:=gb242) (o:=.cells #[.int .i64 0,.bool false,.int .i64 0,.int .i64 0] 45 (0,0)) (puB BK242.out) hb);have n1_:=m_ (l5_ (puM HB.out GE242.out) hb);revert n0_ n1_;clear BK242 HB;intro BK242 HB;(try clear hb);(try clear hb2);(try clear hk);(try clear hi))|((with_reducible refine gate_dst (N:=5) rfl ?_);refine box_event ?hg (N:=5) ?hd (cs:=#[.int .i64 0,.int .i64 0]) (t:=43) ?hr ?_;(case hd=>rfl);(case hg=>rfl);(case hr=>first|(go_simp;done)|(go_simp;rfl));intro gb248 hg w9 hbox hb;have n0_:=m_ (blk_below (g:=gb242) (o:=.cells #[.int .i64 0,.bool false,.int .i64 0,.int .i64 0] 45 (0,0)) (puB BK242.out) hb);have n1_:=m_ (l5_ (puM HB.out GE242.out) hb);have n2_:=m_ (hbox);have n3_:=m_ ((by rw [hg];exact (l6_ (puM HB.out GE242.out)) : w.heap.size ≤ gb248));have n4_:=n3_;have n5_:=m_ ((by rw [hg];exact Nat.ne_of_lt (blk_lt (g:=gb242) (o:=.cells #[.int .i64 0,.bool false,.int .i64 0,.int .i64 0] 45 (0,0)) (puB BK242.out)) : gb242 ≠ gb248));have n6_:=m_ n5_.out.symm;revert n0_ n1_ n2_ n3_ n4_ n5_ n6_;clear BK242 HB;intro BK242 HB BK248 GW248 GE248 NB242_248 NB248_242;clear hb hbox hg;have hnb10:=NB248_242.out;have hnc10:=NB242_248.out;have hcz11_0 : w9.cell? ⟨gb248,0,none⟩ = some (.int .i64 0):=(c_ BK248.out 0).trans rfl;have hcz11_1 : w9.cell? ⟨gb248,1,none⟩ = some (.int .i64 0):=(c_ BK248.out 1).trans rfl;have hfz11_0:=f_ BK248.out 0;have hfz11_1:=f_ BK248.out 1))
   have n0_ : Aside0 (((w9.setCell ⟨gb248,0,none⟩ (.int .i64 t245)).setCell ⟨gb248,1,none⟩ (.int .i64 t246)).heap[gb242]? = some (.cells #[.int .i64 0,.bool false,.int .i64 0,.int .i64 0] 45 (0,0))):=⟨by (with_reducible repeat first|apply b1_|apply b2_|apply b3_);refine b4_ ?_ NB242_248.out _;(with_reducible repeat first|apply b1_|apply b2_|apply b3_);refine b4_ ?_ NB242_248.out _;(with_reducible repeat first|apply b1_|apply b2_|apply b3_);exact BK242.out⟩
   have n1_ : Aside0 (((w9.setCell ⟨gb248,0,none⟩ (.int .i64 t245)).setCell ⟨gb248,1,none⟩ (.int .i64 t246)).heap[gb248]? = some (.cells #[.int .i64 t245,.int .i64 t246] 43 (0,0))):=⟨by (with_reducible repeat first|apply b1_|apply b2_|apply b3_);refine blk_put (cs:=#[.int .i64 t245,.int .i64 0]) ?_ 1 _ rfl;(with_reducible repeat first|apply b1_|apply b2_|apply b3_);refine blk_put (cs:=#[.int .i64 0,.int .i64 0]) ?_ 0 _ rfl;(with_reducible repeat first|apply b1_|apply b2_|apply b3_);exact BK248.out⟩
   have n2_ : Aside0 (Below w.heap.size w ((w9.setCell ⟨gb248,0,none⟩ (.int .i64 t245)).setCell ⟨gb248,1,none⟩ (.int .i64 t246))):=⟨puN HB.out GE242.out GE248.out⟩
   (try clear BK242)
   (try clear BK248)
   (try clear HB)
   generalize ((w9.setCell ⟨gb248,0,none⟩ (.int .i64 t245)).setCell ⟨gb248,1,none⟩ (.int .i64 t246)) = w12 at n0_ n1_ n2_ ⊢
   have BK242:=n0_
   have BK248:=n1_
   have HB:=n2_
   clear n0_ n1_ n2_
   have n0_:=m_ (b2_ BK242.out)
   have n1_:=m_ (b2_ BK248.out)
   have n2_:=m_ (l3_ HB.out)
   clear BK242
   clear BK248
   clear HB
   have BK242:=n0_
   have BK248:=n1_
   have HB:=n2_
   clear n0_ n1_ n2_
   refine start_ (n:=6) (S:=fun w'=>w'.cell? ⟨gb248,0,none⟩ = some (.int .i64 t245) ∧ w'.cell? ⟨gb248,1,none⟩ = some (.int .i64 t246)) (ds:=[]) #[false,false,false,false,false,false] (by kernel_rfl) rfl rfl ⟨(c_ BK248.out 0).trans rfl,(c_ BK248.out 1).trans rfl⟩ (fun hHeld=>?_)
   generalize w12.drew = w13 at BK242 BK248 HB hHeld ⊢
   refine take_ (i:=0) (N:=some 19) (v:=?_) (a':=?_) #[true,false,false,false,false,false] rfl rfl (by kernel_rfl) (fun _ _ _ h=>h) (Or.inl ⟨by rfl,?_⟩) hHeld ?_ ?_
   rotate_left
   ·rintro w' ⟨s0,s1⟩
    go_simp
    with_reducible rfl
   rotate_left
   ·simp only [Act.put,s1_,s2_,s3_,i64_w,i32_w]
    rfl
   refine take_ (i:=3) (N:=some 22) (v:=?_) (a':=?_) #[true,false,false,true,false,false] rfl rfl (by kernel_rfl) (fun _ _ _ h=>h) (Or.inl ⟨by rfl,?_⟩) hHeld ?_ ?_
   rotate_left
   ·rintro w' ⟨s0,s1⟩
    go_simp
    with_reducible rfl
   rotate_left
   ·simp only [Act.put,s1_,s2_,s3_,i64_w,i32_w]
    rfl
   refine one_ (i:=1) (N:=some 20) #[true,true,false,true,false,false] rfl rfl (by kernel_rfl) (by decide) (fun K hK=>?_)
   refine goes_ Tryd.func62 (by kernel_rfl) rfl #[.agg #[.int .i64 t245,.int .i64 t246]] (by rfl) rfl rfl lens ?_
   with_reducible refine (impl_name.calls t245 t246 t249 _ A6.out).mono ?_
   rintro e w14 ⟨rfl,hb⟩
   refine ⟨_,rfl,?_⟩
   have n0_:=m_ (blk_below (g:=gb242) (o:=.cells #[.int .i64 0,.bool false,.int .i64 0,.int .i64 0] 45 (0,0)) (puB BK242.out) hb)
   have n1_:=m_ (blk_below (g:=gb248) (o:=.cells #[.int .i64 t245,.int .i64 t246] 43 (0,0)) (puB BK248.out) hb)
   have n2_:=m_ (l5_ (puN HB.out GE242.out GE248.out) hb)
   clear BK242
   clear BK248
   clear HB
   have BK242:=n0_
   have BK248:=n1_
   have HB:=n2_
   clear n0_ n1_ n2_
   (try clear hb)
   (try clear hb2)
   (try clear hk)
   (try clear hi)
   refine hK.out _ _ ⟨(c_ BK248.out 0).trans rfl,(c_ BK248.out 1).trans rfl⟩ (fun hHeld=>?_)
   clear hK K
   refine norm_ (a':=?_) ?_ ?_
   rotate_left
   ·show Act.put _ (some 20) _ = _
    simp only [Act.put,s1_,s2_,s3_,i64_w,i32_w]
    rfl
   refine pureK 2 (some 21) ?_
   refine pureK 4 (some 23) ?_
   refine one_ (i:=5) (N:=none) #[true,true,true,true,true,true] rfl rfl (by kernel_rfl) (by decide) (fun K hK=>?_)
   have hs15 : w14.cell? ⟨gb242,0,none⟩ = some (.int .i64 0):=(c_ BK242.out 0).trans rfl
   have hfs15:=f_ BK242.out 0
   have hns15_1:=NB248_242.out
   have hms15_1:=NB242_248.out
   have hs16 : w14.cell? ⟨gb242,1,none⟩ = some (.bool false):=(c_ BK242.out 1).trans rfl
   have hfs16:=f_ BK242.out 1
   have hns16_1:=NB248_242.out
   have hms16_1:=NB242_248.out
   have hs17 : w14.cell? ⟨gb242,2,none⟩ = some (.int .i64 0):=(c_ BK242.out 2).trans rfl
   have hfs17:=f_ BK242.out 2
   have hns17_1:=NB248_242.out
   have hms17_1:=NB242_248.out
   have hs18 : w14.cell? ⟨gb242,3,none⟩ = some (.int .i64 0):=(c_ BK242.out 3).trans rfl
   have hfs18:=f_ BK242.out 3
   have hns18_1:=NB248_242.out
   have hms18_1:=NB242_248.out
   refine skip_ (w1:=?_) (by rfl) rfl ?_ ?_
   rotate_left
   ·go_simp
    rfl
   refine hK.out _ _ ⟨((cell_far (p:=⟨gb242,_,none⟩) NB248_242.out _).trans (((cell_far (p:=⟨gb242,_,none⟩) NB248_242.out _).trans (((cell_far (p:=⟨gb242,_,none⟩) NB248_242.out _).trans (((cell_far (p:=⟨gb242,_,none⟩) NB248_242.out _).trans (hHeld.1)))))))),((cell_far (p:=⟨gb242,_,none⟩) NB248_242.out _).trans (((cell_far (p:=⟨gb242,_,none⟩) NB248_242.out _).trans (((cell_far (p:=⟨gb242,_,none⟩) NB248_242.out _).trans (((cell_far (p:=⟨gb242,_,none⟩) NB248_242.out _).trans (hHeld.2))))))))⟩ (fun hHeld=>?_)
   clear hK K
   refine done_ (by kernel_rfl) ?_
   try go_wp2
   refine bodyPost_ret (results_cell_row rfl _ _ gb242 45 #[.int .i64 (t249.size : Int),.bool true,.int .i64 t245,.int .i64 t246] (0,0) _ rfl (by (with_reducible repeat first|apply b1_|apply b2_|apply b3_);refine blk_put (cs:=#[.int .i64 (t249.size : Int),.bool true,.int .i64 t245,.int .i64 0]) ?_ 3 _ rfl;(with_reducible repeat first|apply b1_|apply b2_|apply b3_);refine blk_put (cs:=#[.int .i64 (t249.size : Int),.bool true,.int .i64 0,.int .i64 0]) ?_ 2 _ rfl;(with_reducible repeat first|apply b1_|apply b2_|apply b3_);refine blk_put (cs:=#[.int .i64 (t249.size : Int),.bool false,.int .i64 0,.int .i64 0]) ?_ 1 _ rfl;(with_reducible repeat first|apply b1_|apply b2_|apply b3_);refine blk_put (cs:=#[.int .i64 0,.bool false,.int .i64 0,.int .i64 0]) ?_ 0 _ rfl;(with_reducible repeat first|apply b1_|apply b2_|apply b3_);exact BK242.out) Tryd.underlying45 rfl (by kernel_rfl)) rfl ?_
   exact ⟨eqs,puN HB.out GE242.out GE248.out⟩
  ·replace c5:=Bool.eq_false_iff.mpr c5
   subst c5
   have H1 : (some (1,false,0,0)) = some (r1,r2,r3,r4):=by rw [if_neg (show ¬ (false = true) by decide)] at H;exact H
   clear H
   have H:=H1
   clear H1
   simp only [Option.some.injEq,Prod.mk.injEq] at H
   obtain ⟨rfl,rfl,rfl,rfl⟩:=H
   go_enter Tryd.func46,Tryd.ntmps46
   go_wp2_with (first|((with_reducible refine gate_dst (N:=2) rfl ?_);refine box_event ?hg (N:=2) ?hd (cs:=#[.int .i64 0,.bool false,.int .i64 0,.int .i64 0]) (t:=45) ?hr ?_;(case hd=>rfl);(case hg=>rfl);(case hr=>first|(go_simp;done)|(go_simp;rfl));intro gb242 hg w19 hbox hb;have n0_:=m_ (l5_ (puL HB.out) hb);have n1_:=m_ (hbox);have n2_:=m_ ((by rw [hg];exact (l6_ (puL HB.out)) : w.heap.size ≤ gb242));have n3_:=m_ ((by rw [hg];exact (l6_ (puL HB.out)) : w.heap.size ≤ gb242));revert n0_ n1_ n2_ n3_;clear HB;intro HB BK242 GW242 GE242;clear hb hbox hg)|((with_reducible refine gate_callee (f:=60) rfl ?_);refine goesL_ (some 9) rfl rfl Tryd.func60 (by kernel_rfl) rfl #[.string a0,.string (⟨#[64]⟩ : ByteArray)] rfl lens ?_;(with_reducible refine (strings_CutPrefix.calls a0 (⟨#[64]⟩ : ByteArray) t243 true _ A2.out).mono ?_);rintro e w' ⟨rfl,⟨nd,rfl⟩⟩;refine ⟨_,rfl,?_⟩;(try (rw [drewN_self w19];generalize hq_ : World.drewN w19 _ = w19;have n0_ : Aside0 (w19.heap[gb242]? = some (.cells #[.int .i64 0,.bool false,.int .i64 0,.int .i64 0] 45 (0,0))):=⟨by rw [← hq_];exact (puB BK242.out)⟩;have n1_ : Aside0 (Below w.heap.size w w19):=⟨by rw [← hq_];exact (puM HB.out GE242.out)⟩;clear BK242 HB hq_;have BK242:=n0_;have HB:=n1_;clear n0_ n1_)))|((with_reducible refine gate_callee (f:=61) rfl ?_);refine goesL_ (some 15) rfl rfl Tryd.func61 (by kernel_rfl) rfl #[.string t243] rfl lens ?_;(with_reducible refine (impl_readName.calls t243 t245 t246 false _ ?side1 A4.out).mono ?_);(case side1=>first|(with_reducible exact HG.out)|exact GV_below HG.out (puM HB.out GE242.out));rintro e w20 ⟨rfl,hb⟩;refine ⟨_,rfl,?_⟩;have n0_:=m_ (blk_below (g:=gb242) (o:=.cells #[.int .i64 0,.bool false,.int .i64 0,.int .i64 0] 45 (0,0)) (puB BK242.out) hb);have n1_:=m_ (l5_ (puM HB.out GE242.out) hb);revert n0_ n1_;clear BK242 HB;intro BK242 HB;(try clear hb);(try clear hb2);(try clear hk);(try clear hi))|((with_reducible refine gate_dst (N:=5) rfl ?_);refine box_event ?hg (N:=5) ?hd (cs:=#[.int .i64 0,.int .i64 0]) (t:=43) ?hr ?_;(case hd=>rfl);(case hg=>rfl);(case hr=>first|(go_simp;done)|(go_simp;rfl));intro gb248 hg w21 hbox hb;have n0_:=m_ (blk_below (g:=gb242) (o:=.cells #[.int .i64 0,.bool false,.int .i64 0,.int .i64 0] 45 (0,0)) (puB BK242.out) hb);have n1_:=m_ (l5_ (puM HB.out GE242.out) hb);have n2_:=m_ (hbox);have n3_:=m_ ((by rw [hg];exact (l6_ (puM HB.out GE242.out)) : w.heap.size ≤ gb248));have n4_:=n3_;have n5_:=m_ ((by rw [hg];exact Nat.ne_of_lt (blk_lt (g:=gb242) (o:=.cells #[.int .i64 0,.bool false,.int .i64 0,.int .i64 0] 45 (0,0)) (puB BK242.out)) : gb242 ≠ gb248));have n6_:=m_ n5_.out.symm;revert n0_ n1_ n2_ n3_ n4_ n5_ n6_;clear BK242 HB;intro BK242 HB BK248 GW248 GE248 NB242_248 NB248_242;clear hb hbox hg;have hnb22:=NB248_242.out;have hnc22:=NB242_248.out;have hcz23_0 : w21.cell? ⟨gb248,0,none⟩ = some (.int .i64 0):=(c_ BK248.out 0).trans rfl;have hcz23_1 : w21.cell? ⟨gb248,1,none⟩ = some (.int .i64 0):=(c_ BK248.out 1).trans rfl;have hfz23_0:=f_ BK248.out 0;have hfz23_1:=f_ BK248.out 1;have hcz24_0 : w21.cell? ⟨gb242,0,none⟩ = some (.int .i64 0):=(c_ BK242.out 0).trans rfl;have hcz24_1 : w21.cell? ⟨gb242,1,none⟩ = some (.bool false):=(c_ BK242.out 1).trans rfl;have hcz24_2 : w21.cell? ⟨gb242,2,none⟩ = some (.int .i64 0):=(c_ BK242.out 2).trans rfl;have hcz24_3 : w21.cell? ⟨gb242,3,none⟩ = some (.int .i64 0):=(c_ BK242.out 3).trans rfl;have hfz24_0:=f_ BK242.out 0;have hfz24_1:=f_ BK242.out 1;have hfz24_2:=f_ BK242.out 2;have hfz24_3:=f_ BK242.out 3))
   refine bodyPost_ret (results_cell_row rfl _ _ gb242 45 #[.int .i64 1,.bool false,.int .i64 0,.int .i64 0] (0,0) _ rfl (by (with_reducible repeat first|apply b1_|apply b2_|apply b3_);refine blk_put (cs:=#[.int .i64 1,.bool false,.int .i64 0,.int .i64 0]) ?_ 3 _ rfl;(with_reducible repeat first|apply b1_|apply b2_|apply b3_);refine blk_put (cs:=#[.int .i64 1,.bool false,.int .i64 0,.int .i64 0]) ?_ 2 _ rfl;(with_reducible repeat first|apply b1_|apply b2_|apply b3_);refine blk_put (cs:=#[.int .i64 1,.bool false,.int .i64 0,.int .i64 0]) ?_ 1 _ rfl;(with_reducible repeat first|apply b1_|apply b2_|apply b3_);refine blk_put (cs:=#[.int .i64 0,.bool false,.int .i64 0,.int .i64 0]) ?_ 0 _ rfl;(with_reducible repeat first|apply b1_|apply b2_|apply b3_);refine b4_ ?_ NB242_248.out _;(with_reducible repeat first|apply b1_|apply b2_|apply b3_);refine b4_ ?_ NB242_248.out _;(with_reducible repeat first|apply b1_|apply b2_|apply b3_);exact BK242.out) Tryd.underlying45 rfl (by kernel_rfl)) rfl ?_
   exact ⟨eqs,puN HB.out GE242.out GE248.out⟩
 ·replace c3:=Bool.eq_false_iff.mpr c3
  subst c3
  have H1 : (some (1,false,0,0)) = some (r1,r2,r3,r4):=by rw [if_neg (show ¬ (false = true) by decide)] at H;exact H
  clear H
  have H:=H1
  clear H1
  simp only [Option.some.injEq,Prod.mk.injEq] at H
  obtain ⟨rfl,rfl,rfl,rfl⟩:=H
  go_enter Tryd.func46,Tryd.ntmps46
  go_wp2_with (first|((with_reducible refine gate_dst (N:=2) rfl ?_);refine box_event ?hg (N:=2) ?hd (cs:=#[.int .i64 0,.bool false,.int .i64 0,.int .i64 0]) (t:=45) ?hr ?_;(case hd=>rfl);(case hg=>rfl);(case hr=>first|(go_simp;done)|(go_simp;rfl));intro gb242 hg w25 hbox hb;have n0_:=m_ (l5_ (puL HB.out) hb);have n1_:=m_ (hbox);have n2_:=m_ ((by rw [hg];exact (l6_ (puL HB.out)) : w.heap.size ≤ gb242));have n3_:=m_ ((by rw [hg];exact (l6_ (puL HB.out)) : w.heap.size ≤ gb242));revert n0_ n1_ n2_ n3_;clear HB;intro HB BK242 GW242 GE242;clear hb hbox hg)|((with_reducible refine gate_callee (f:=60) rfl ?_);refine goesL_ (some 9) rfl rfl Tryd.func60 (by kernel_rfl) rfl #[.string a0,.string (⟨#[64]⟩ : ByteArray)] rfl lens ?_;(with_reducible refine (strings_CutPrefix.calls a0 (⟨#[64]⟩ : ByteArray) t243 false _ A2.out).mono ?_);rintro e w' ⟨rfl,⟨nd,rfl⟩⟩;refine ⟨_,rfl,?_⟩;(try (rw [drewN_self w25];generalize hq_ : World.drewN w25 _ = w25;have n0_ : Aside0 (w25.heap[gb242]? = some (.cells #[.int .i64 0,.bool false,.int .i64 0,.int .i64 0] 45 (0,0))):=⟨by rw [← hq_];exact (puB BK242.out)⟩;have n1_ : Aside0 (Below w.heap.size w w25):=⟨by rw [← hq_];exact (puM HB.out GE242.out)⟩;clear BK242 HB hq_;have BK242:=n0_;have HB:=n1_;clear n0_ n1_));have hcz26_0 : w25.cell? ⟨gb242,0,none⟩ = some (.int .i64 0):=(c_ BK242.out 0).trans rfl;have hcz26_1 : w25.cell? ⟨gb242,1,none⟩ = some (.bool false):=(c_ BK242.out 1).trans rfl;have hcz26_2 : w25.cell? ⟨gb242,2,none⟩ = some (.int .i64 0):=(c_ BK242.out 2).trans rfl;have hcz26_3 : w25.cell? ⟨gb242,3,none⟩ = some (.int .i64 0):=(c_ BK242.out 3).trans rfl;have hfz26_0:=f_ BK242.out 0;have hfz26_1:=f_ BK242.out 1;have hfz26_2:=f_ BK242.out 2;have hfz26_3:=f_ BK242.out 3))
  refine bodyPost_ret (results_cell_row rfl _ _ gb242 45 #[.int .i64 1,.bool false,.int .i64 0,.int .i64 0] (0,0) _ rfl (by (with_reducible repeat first|apply b1_|apply b2_|apply b3_);refine blk_put (cs:=#[.int .i64 1,.bool false,.int .i64 0,.int .i64 0]) ?_ 3 _ rfl;(with_reducible repeat first|apply b1_|apply b2_|apply b3_);refine blk_put (cs:=#[.int .i64 1,.bool false,.int .i64 0,.int .i64 0]) ?_ 2 _ rfl;(with_reducible repeat first|apply b1_|apply b2_|apply b3_);refine blk_put (cs:=#[.int .i64 1,.bool false,.int .i64 0,.int .i64 0]) ?_ 1 _ rfl;(with_reducible repeat first|apply b1_|apply b2_|apply b3_);refine blk_put (cs:=#[.int .i64 0,.bool false,.int .i64 0,.int .i64 0]) ?_ 0 _ rfl;(with_reducible repeat first|apply b1_|apply b2_|apply b3_);exact BK242.out) Tryd.underlying45 rfl (by kernel_rfl)) rfl ?_
  exact ⟨eqs,puM HB.out GE242.out⟩

/-! ### slices_Clip_Piece: function 47 -/
/-- The same row, with no more capacity than it has elements. -/
def slices_Clip_Piece.f (l0 : List (S45)) : Option (List (S45)) := some l0
theorem slices_Clip_Piece.calls (P0_ : Nat → Prop) (u9000_ : Value) (l0 : List (S45)) (r : List (S45)) (w0 w : World) (hB : Below w0.heap.size w0 w) (ho0 : Kd.R k45 45 w w0.heap.size P0_ u9000_ l0) (h : slices_Clip_Piece.f l0 = some r) :
  Calls Tryd.prog 47 #[u9000_] w fun e w'=>∃ v0_ : Value,e = .returned v0_ ∧ Kd.R k45 45 w' w0.heap.size (fun k_=>(P0_ k_ ∨ w.heap.size ≤ k_)) v0_ r ∧ Below w0.heap.size w0 w' ∧ Kept w w' (fun k_=>P0_ k_):=by
 obtain rfl:=Option.some.inj h
 obtain ⟨hok,inner,ho,hr⟩:=ho0
 have fin : ∀ v : Value,v.ownBlock = u9000_.ownBlock → Go.Proofs.YtkcjmmhleepjeaaDoorW.ownsWide w w0.heap.size 45 k45.sz v l0.length inner → Kd.R k45 45 w w0.heap.size (fun k_=>(P0_ k_ ∨ w.heap.size ≤ k_)) v l0:=by
  intro v hv hw
  refine ⟨fun k hk=>.inl (hok k (hv ▸ hk)),inner,hw,hr.imp_ (fun _ _ hp=>Kd.M_mono _ (fun k hk=>⟨.inl hk.1,hv ▸ hk.2⟩) hp)⟩
 rcases ho.2 with ⟨rfl,hn⟩|⟨g,cap,cur,rfl,hb,hg,h4,h5,h6,h7⟩
 ·go_enter Tryd.func47,Tryd.ntmps47
  go_wp2
  go_ret
  exact ⟨_,rfl,fin _ rfl ho,hB,Kept.refl _ _⟩
 ·have e0 : (0 : Int) ≤ (l0.length : Int):=Int.natCast_nonneg _
  have e1 : (l0.length : Int) ≤ (cap : Int):=Int.ofNat_le.2 h4
  go_enter Tryd.func47,Tryd.ntmps47
  go_wp2
  go_ret
  exact ⟨_,rfl,fin _ rfl ho.clip,hB,Kept.refl _ _⟩

/-! ### impl_pieces: function 27 -/
def impl_pieces.l0 : Nat → List (S45) → ByteArray → Option ((List (S45)))
 | 0, _, _ => none
 | k + 1, x3, x4 => if x4.toList = ([] : List UInt8) then ((slices_Clip_Piece.f x3).bind fun t254 => (some t254)) else ((impl_piece.f x4).bind fun bt257 => (if x3.length < 4398046511104 then (if 0 ≤ bt257.1 then (if bt257.1 ≤ (x4.size : Int) then (impl_pieces.l0 k (x3 ++ [(⟨bt257.1, bt257.2.1, (⟨bt257.2.2.1, bt257.2.2.2⟩ : S43)⟩ : S45)]) (x4.extract (bt257.1 : Int).toNat x4.size)) else (none)) else (none)) else (none)))
def impl_pieces.f (k : Nat) (a0 : ByteArray) : Option ((List (S45))) := (impl_held.f k a0).bind fun t253 => (if 0 ≤ (wrap64 ((a0.size : Int) - t253)) then (if (wrap64 ((a0.size : Int) - t253)) ≤ (a0.size : Int) then (impl_pieces.l0 k (([] : List (S45))) (a0.extract 0 ((wrap64 ((a0.size : Int) - t253)) : Int).toNat)) else (none)) else (none))
theorem impl_pieces.mono_l : ∀ k, (∀ y0 y1, LeO (impl_pieces.l0 k y0 y1) (impl_pieces.l0 (k + 1) y0 y1))
 | 0 => fun _ _ r h => by simp [impl_pieces.l0] at h
 | k + 1 => by
  have ih0:=impl_pieces.mono_l k
  ·intro y0 y1
   unfold impl_pieces.l0
   repeat' first
   | (with_reducible exact ih0 _ _)
   | (with_reducible exact impl_held.mono _ _)
   | (with_reducible exact LeO.refl _)
   | (with_reducible exact LeO.none _)
   | (with_reducible refine LeO.ite ?_ ?_)
   | (with_reducible refine LeO.bind ?_ (fun _ => ?_))
   | exact ih0 _ _
   | exact impl_held.mono _ _
   | exact LeO.none _
   | refine LeO.ite ?_ ?_
   | refine LeO.bind ?_ (fun _ => ?_)
theorem impl_pieces.mono : ∀ a0 k, LeO (impl_pieces.f k a0) (impl_pieces.f (k + 1) a0) := by
 intro a0 k
 have ih0:=impl_pieces.mono_l k
 unfold impl_pieces.f
 repeat' first
   | (with_reducible exact ih0 _ _)
   | (with_reducible exact impl_held.mono _ _)
   | (with_reducible exact LeO.refl _)
   | (with_reducible exact LeO.none _)
   | (with_reducible refine LeO.ite ?_ ?_)
   | (with_reducible refine LeO.bind ?_ (fun _ => ?_))
   | exact ih0 _ _
   | exact impl_held.mono _ _
   | exact LeO.none _
   | refine LeO.ite ?_ ?_
   | refine LeO.bind ?_ (fun _ => ?_)
theorem impl_pieces.calls (k : Nat) (a0 : ByteArray) (r : List (S45)) (w : World) (hG : GV w) (h : impl_pieces.f k a0 = some r) :
  Calls Tryd.prog 27 #[.string a0] w fun e w'=>∃ v0_ : Value,e = .returned (v0_) ∧ Kd.R k45 45 w' w.heap.size (fun _=>True) v0_ r ∧ Below w.heap.size w w':=by
 have hu45:=Tryd.underlying45
 have HG:=m_ hG
 clear hG
 have HB:=m_ (Below.refl w.heap.size w)
 have H : ((impl_held.f k a0).bind fun t253=>(if 0 ≤ (wrap64 ((a0.size : Int) - t253)) then (if (wrap64 ((a0.size : Int) - t253)) ≤ (a0.size : Int) then (impl_pieces.l0 k (([] : List (S45))) (a0.extract 0 ((wrap64 ((a0.size : Int) - t253)) : Int).toNat)) else (none)) else (none))) = some r:=h
 clear h
 obtain ⟨y250,hy250⟩ : ∃ y_ : List (S45),y_ = (([] : List (S45))):=⟨_,rfl⟩
 replace H : ((impl_held.f k a0).bind fun t253=>(if 0 ≤ (wrap64 ((a0.size : Int) - t253)) then (if (wrap64 ((a0.size : Int) - t253)) ≤ (a0.size : Int) then (impl_pieces.l0 k y250 (a0.extract 0 ((wrap64 ((a0.size : Int) - t253)) : Int).toNat)) else (none)) else (none))) = some r:=by first|(rw [hy250];with_reducible exact H)|(have H2_:=(Option.bind_some _ _).symm.trans H;rw [hy250];with_reducible exact H2_)|(have H2_:=(Option.bind_some _ _).symm.trans H;with_reducible exact H2_)|with_reducible exact H|(rw [hy250];exact H)|exact H
 have Ny250:=m_ hy250
 clear hy250
 replace H:=Option.bind_eq_some_iff.mp H
 obtain ⟨t253,A20,H⟩:=H
 replace H : (if 0 ≤ (wrap64 ((a0.size : Int) - t253)) then (if (wrap64 ((a0.size : Int) - t253)) ≤ (a0.size : Int) then (impl_pieces.l0 k y250 (a0.extract 0 ((wrap64 ((a0.size : Int) - t253)) : Int).toNat)) else (none)) else (none)) = some r:=H
 have A2:=m_ A20
 clear A20
 obtain ⟨ji3,hji3⟩ : ∃ j_ : Int,(wrap64 ((a0.size : Int) - t253)) = j_:=⟨_,rfl⟩
 replace H : (if 0 ≤ (ji3) then (if (ji3) ≤ (a0.size : Int) then (impl_pieces.l0 k y250 (a0.extract 0 ((ji3) : Int).toNat)) else (none)) else (none)) = some r:=by first|(rw [hji3] at H;exact H)|(simp only [hji3] at H ⊢;exact H)
 (try rw [hji3] at A2)
 have hji3w : (IntKind.i64.wrap ((a0.size : Int) - t253)) = ji3:=(i64_w _).trans hji3
 by_cases c4 : 0 ≤ (ji3)
 rotate_left
 ·rw [if_neg c4] at H
  exact absurd H (by simp)
 rw [if_pos c4] at H
 have c4b0:=eq_true c4
 have c4b1:=decide_eq_true c4
 clear c4
 by_cases c5 : (ji3) ≤ (a0.size : Int)
 rotate_left
 ·rw [if_neg c5] at H
  exact absurd H (by simp)
 rw [if_pos c5] at H
 have c5b0:=eq_true c5
 have c5b1:=decide_eq_true c5
 clear c5
 have H':=m_ H
 clear H
 go_enter Tryd.func27,Tryd.ntmps27
 go_wp2_with (first|((with_reducible refine gate_dst (N:=6) rfl ?_);refine Kd.R_lit k45 _ 45 ?hg (N:=6) ?hd (xs:=([] : List (S45))) (inner:=[]) (ok:=fun _=>True) (okp:=fun _=>True) ?hr ?hp (fun _ hk=>hk) trivial (Below.refl _ _) (Nat.le_refl _) (by simp) ?_;(case hd=>rfl);(case hg=>rfl);(case hr=>first|(go_simp;done)|(go_simp;rfl));(case hp=>exact (Reps.none _ _));intro v251 w6 ho7 hb hg_ hnew_;clear hg_ hnew_;(first|rw [← Ny250.out] at ho7|(simp only [Int.reduceToNat] at ho7;rw [← Ny250.out] at ho7));have n0_:=m_ (Kd.R_lower ho7 (l6_ (puL HB.out)));have n1_:=m_ (l5_ (puL HB.out) hb);revert n0_ n1_;clear HB;intro HO252 HB;clear hb ho7)|((with_reducible refine gate_callee (f:=45) rfl ?_);refine goesL_ (some 11) rfl rfl Tryd.func45 (by kernel_rfl) rfl #[.string a0] rfl lens ?_;(with_reducible refine (impl_held.calls k a0 t253 _ A2.out).mono ?_);rintro e w8 ⟨rfl,hb⟩;refine ⟨_,rfl,?_⟩;have n0_:=m_ (Kd.R_below (puR HO252.out) hb);have n1_:=m_ (l5_ (puL HB.out) hb);revert n0_ n1_;clear HO252 HB;intro HO252 HB;(try clear hb);(try clear hb2);(try clear hk);(try clear hi)))
 go_loopg [3,4] k (fun kq v3 v4 w'=>∃ (x3_1 : List (S45)) (x4_1 : ByteArray),v4 = .string x4_1 ∧ Aside0 (impl_pieces.l0 kq x3_1 x4_1 = some r) ∧ Aside0 (kq ≤ k) ∧ Aside0 (Kd.R k45 45 w' w.heap.size (fun _=>True) v3 x3_1) ∧ Aside0 (Below w.heap.size w w'))
 case atStart=>exact ⟨(y250),(a0.extract 0 ((ji3) : Int).toNat),(by first|rfl|(simp;done)|(simp only [← hji3] <;> (first|rfl|simp))|(simp [*];done)),H',⟨Nat.le_refl _⟩,⟨by (with_reducible repeat (first|apply Kd.R_alloc|apply Kd.R_drewN|apply Kd.R_drew));exact HO252.out⟩,⟨puL HB.out⟩⟩
 case round =>
  clear H'
  try clear c2
  try clear p2
  try clear c4
  try clear c4b0
  try clear c4b1
  try clear c5
  try clear c5b0
  try clear c5b1
  try clear p6
  obtain ⟨x3_1,x4_1,rfl,HA,HK1,HO_3,HB⟩:=hrel
  cases gk with
  | zero => exact absurd HA.out (by simp [impl_pieces.l0])
  | succ k1 =>
   have H:=HA.out
   clear HA
   simp only [impl_pieces.l0] at H
   by_cases c9 : x4_1.toList = ([] : List UInt8)
   ·rw [if_pos c9] at H
    have c9b0 : x4_1.toList.isEmpty = true:=by simpa using c9
    have c9b1 : (x4_1.toList == ([] : List UInt8)) = true:=beq_iff_eq.mpr c9
    have c9b2 : (x4_1.toList != ([] : List UInt8)) = false:=bne_eq_false_iff_eq.mpr c9
    clear c9
    replace H:=Option.bind_eq_some_iff.mp H
    obtain ⟨t254,A100,H⟩:=H
    replace H : (some t254) = some r:=H
    have A10:=m_ A100
    clear A100
    obtain rfl:=Option.some.inj H
    obtain ⟨Ao11,co11,eo11⟩:=Kd.R_slice HO_3.out
    subst eo11
    go_wp2_with (first|((with_reducible refine gate_callee (f:=47) rfl ?_);refine goesL_ (some 27) rfl rfl Tryd.func47 (by kernel_rfl) rfl #[.slice Ao11 x3_1.length co11] rfl lens ?_;(with_reducible refine (slices_Clip_Piece.calls (fun k_=>some k_ = (.slice Ao11 x3_1.length co11 : Value).ownBlock) (.slice Ao11 x3_1.length co11) x3_1 t254 w _ ?side1 ?side2 A10.out).mono ?_);(case side1=>repeat (first|(with_reducible first|exact HB.out|apply l1_|apply l2_|apply l3_)|exact HB.out));(case side2=>exact Kd.R_tight rfl HO_3.out);rintro e w12 ⟨v255,rfl,ho0,hb,hkp⟩;refine ⟨_,rfl,?_⟩;have n0_:=m_ (Kd.R_mono (ok':=fun k_=>True) ho0 (fun k_ hk_=>trivial));have n1_:=m_ (hb);revert n0_ n1_;clear HB HO_3;intro HO256 HB;(try clear hb);(try clear hkp);(try clear ho0)))
    go_ret
    exact ⟨_,by first|rfl|(simp [e1_,e2_] <;> rfl)|(simp only [← hji3];first|rfl|(simp [e1_,e2_] <;> rfl))|(simp [*,e1_,e2_] <;> rfl)|(simp [e1_,e2_,pk_empty1,pk_empty2];done)|(simp [*,e1_,e2_,pk_empty1,pk_empty2];done),puR HO256.out,puL HB.out⟩
   ·rw [if_neg c9] at H
    have c9b0 : x4_1.toList.isEmpty = false:=by simpa using c9
    have c9b1 : (x4_1.toList == ([] : List UInt8)) = false:=beq_eq_false_iff_ne.mpr c9
    have c9b2 : (x4_1.toList != ([] : List UInt8)) = true:=bne_iff_ne.mpr c9
    replace H:=Option.bind_eq_some_iff.mp H
    obtain ⟨⟨t257,t258,t259,t260⟩,A130,H⟩:=H
    replace H : (if x3_1.length < 4398046511104 then (if 0 ≤ t257 then (if t257 ≤ (x4_1.size : Int) then (impl_pieces.l0 k1 (x3_1 ++ [(⟨t257,t258,(⟨t259,t260⟩ : S43)⟩ : S45)]) (x4_1.extract (t257 : Int).toNat x4_1.size)) else (none)) else (none)) else (none)) = some r:=H
    have A13:=m_ A130
    clear A130
    by_cases c14 : x3_1.length < 4398046511104
    rotate_left
    ·rw [if_neg c14] at H
     exact absurd H (by simp)
    rw [if_pos c14] at H
    have LMc14:=m_ c14
    clear c14
    obtain ⟨y262,hy262⟩ : ∃ y_ : List (S45),y_ = (x3_1 ++ [(⟨t257,t258,(⟨t259,t260⟩ : S43)⟩ : S45)]):=⟨_,rfl⟩
    replace H : (if 0 ≤ t257 then (if t257 ≤ (x4_1.size : Int) then (impl_pieces.l0 k1 y262 (x4_1.extract (t257 : Int).toNat x4_1.size)) else (none)) else (none)) = some r:=by first|(rw [hy262];with_reducible exact H)|(have H2_:=(Option.bind_some _ _).symm.trans H;rw [hy262];with_reducible exact H2_)|(have H2_:=(Option.bind_some _ _).symm.trans H;with_reducible exact H2_)|with_reducible exact H|(rw [hy262];exact H)|exact H
    have Ny262:=m_ hy262
    clear hy262
    by_cases c15 : 0 ≤ t257
    rotate_left
    ·rw [if_neg c15] at H
     exact absurd H (by simp)
    rw [if_pos c15] at H
    have c15b0:=eq_true c15
    have c15b1:=decide_eq_true c15
    clear c15
    by_cases c16 : t257 ≤ (x4_1.size : Int)
    ·rw [if_pos c16] at H
     have c16b0:=eq_true c16
     have c16b1:=decide_eq_true c16
     clear c16
     have H':=m_ H
     clear H
     go_wp2_with (first|((with_reducible refine gate_callee (f:=46) rfl ?_);refine goesL_ (some 17) rfl rfl Tryd.func46 (by kernel_rfl) rfl #[.string x4_1] rfl lens ?_;(with_reducible refine (impl_piece.calls x4_1 t257 t258 t259 t260 _ ?side1 A13.out).mono ?_);(case side1=>first|(with_reducible exact HG.out)|exact GV_below HG.out (puL HB.out));rintro e w17 ⟨rfl,hb⟩;refine ⟨_,rfl,?_⟩;have n0_:=m_ (Kd.R_below (puR HO_3.out) hb);have n1_:=m_ (l5_ (puL HB.out) hb);revert n0_ n1_;clear HO_3 HB;intro HO_3 HB;(try clear hb);(try clear hb2);(try clear hk);(try clear hi))|((with_reducible refine gate_dst (N:=5) rfl ?_);refine box_event ?hg (N:=5) ?hd (cs:=#[.int .i64 0,.bool false,.int .i64 0,.int .i64 0]) (t:=45) ?hr ?_;(case hd=>rfl);(case hg=>rfl);(case hr=>first|(go_simp;done)|(go_simp;rfl));intro gb261 hg w18 hbox hb;have n0_:=m_ (Kd.R_below (Kd.R_elderB (puR HO_3.out) gb261 (Nat.le_of_eq hg.symm)) hb);have n1_:=m_ (l5_ (puL HB.out) hb);have n2_:=m_ (hbox);have n3_:=m_ ((by rw [hg];exact (l6_ (puL HB.out)) : w.heap.size ≤ gb261));have n4_:=m_ ((by rw [hg];exact (l6_ (puL HB.out)) : w.heap.size ≤ gb261));revert n0_ n1_ n2_ n3_ n4_;clear HO_3 HB;intro HO_3 HB BK261 GW261 GE261;clear hb hbox hg;have hcz19_0 : w18.cell? ⟨gb261,0,none⟩ = some (.int .i64 0):=(c_ BK261.out 0).trans rfl;have hcz19_1 : w18.cell? ⟨gb261,1,none⟩ = some (.bool false):=(c_ BK261.out 1).trans rfl;have hcz19_2 : w18.cell? ⟨gb261,2,none⟩ = some (.int .i64 0):=(c_ BK261.out 2).trans rfl;have hcz19_3 : w18.cell? ⟨gb261,3,none⟩ = some (.int .i64 0):=(c_ BK261.out 3).trans rfl;have hfz19_0:=f_ BK261.out 0;have hfz19_1:=f_ BK261.out 1;have hfz19_2:=f_ BK261.out 2;have hfz19_3:=f_ BK261.out 3)|((with_reducible refine gate_builtin (b:=.append) (xs:=#[.tmp 18,.tmp 20]) rfl ?_);at_builtin;refine Kd.R_append k45 (w0:=w) w.heap.size rfl (.tmp 18) (.tmp 20) 38 45 (.agg #[(.int .i64 0),(.bool false),(.int .i64 0),(.int .i64 0)]) 32 rfl Tryd.underlying38 info45 rfl (by decide) (by omega) u3 x3_1 (⟨t257,t258,(⟨t259,t260⟩ : S43)⟩ : S45) [.int .i64 t257,.bool t258,.int .i64 t259,.int .i64 t260] (fun k_=>k_ ≠ gb261) (fun _=>False) rfl (by first|(go_simp;done)|(go_simp;rfl)) ?aP (fun _ hk=>hk.elim) ?aF ?aO ?aB ?aS ?aL ?_;(case aP=>exact k45_mkM _ _ _ (⟨t257,t258,(⟨t259,t260⟩ : S43)⟩ : S45));(case aB=>exact (puM HB.out GE261.out));(case aF=>exact (fun k_ hk=>Kd.freshB (g:=gb261) (o:=.cells #[.int .i64 t257,.bool t258,.int .i64 t259,.int .i64 t260] 45 (0,0)) (by (with_reducible repeat first|apply b1_|apply b2_|apply b3_);refine blk_put (cs:=#[.int .i64 t257,.bool t258,.int .i64 t259,.int .i64 0]) ?_ 3 _ rfl;(with_reducible repeat first|apply b1_|apply b2_|apply b3_);refine blk_put (cs:=#[.int .i64 t257,.bool t258,.int .i64 0,.int .i64 0]) ?_ 2 _ rfl;(with_reducible repeat first|apply b1_|apply b2_|apply b3_);refine blk_put (cs:=#[.int .i64 t257,.bool false,.int .i64 0,.int .i64 0]) ?_ 1 _ rfl;(with_reducible repeat first|apply b1_|apply b2_|apply b3_);refine blk_put (cs:=#[.int .i64 0,.bool false,.int .i64 0,.int .i64 0]) ?_ 0 _ rfl;(with_reducible repeat first|apply b1_|apply b2_|apply b3_);exact BK261.out) k_ hk));(case aO=>exact (by (with_reducible repeat (first|apply Kd.R_alloc|apply Kd.R_drewN|apply Kd.R_drew));exact Kd.R_mono (Kd.R_far (p:=⟨gb261,3,none⟩) (Kd.R_far (p:=⟨gb261,2,none⟩) (Kd.R_far (p:=⟨gb261,1,none⟩) (Kd.R_far (p:=⟨gb261,0,none⟩) (Kd.R_mono HO_3.out (fun k_ hk=>(⟨hk,hk.2⟩ : _ ∧ k_ ≠ gb261))) (fun _ hk=>hk.2) (.int .i64 t257)) (fun _ hk=>hk.2) (.bool t258)) (fun _ hk=>hk.2) (.int .i64 t259)) (fun _ hk=>hk.2) (.int .i64 t260)) (fun _ hk=>hk.1.2)));(case aS=>exact (l6_ (puM HB.out GE261.out)));(case aL=>have:=LMc14.out;omega);intro v263 w20 ho hb hg hat;rw [← Ny262.out] at ho;have n0_:=m_ (blk_grown (g:=gb261) (o:=.cells #[.int .i64 t257,.bool t258,.int .i64 t259,.int .i64 t260] 45 (0,0)) (by (with_reducible repeat first|apply b1_|apply b2_|apply b3_);refine blk_put (cs:=#[.int .i64 t257,.bool t258,.int .i64 t259,.int .i64 0]) ?_ 3 _ rfl;(with_reducible repeat first|apply b1_|apply b2_|apply b3_);refine blk_put (cs:=#[.int .i64 t257,.bool t258,.int .i64 0,.int .i64 0]) ?_ 2 _ rfl;(with_reducible repeat first|apply b1_|apply b2_|apply b3_);refine blk_put (cs:=#[.int .i64 t257,.bool false,.int .i64 0,.int .i64 0]) ?_ 1 _ rfl;(with_reducible repeat first|apply b1_|apply b2_|apply b3_);refine blk_put (cs:=#[.int .i64 0,.bool false,.int .i64 0,.int .i64 0]) ?_ 0 _ rfl;(with_reducible repeat first|apply b1_|apply b2_|apply b3_);exact BK261.out) hg (Kd.R_away HO_3.out (fun _ hk=>hk.2)));have n1_:=m_ (hb);have n2_:=m_ (ho);revert n0_ n1_ n2_;clear BK261 HB HO_3;intro BK261 HB HO264;clear ho hb hg hat;have hcz21_0 : w20.cell? ⟨gb261,0,none⟩ = some (.int .i64 t257):=(c_ BK261.out 0).trans rfl;have hcz21_1 : w20.cell? ⟨gb261,1,none⟩ = some (.bool t258):=(c_ BK261.out 1).trans rfl;have hcz21_2 : w20.cell? ⟨gb261,2,none⟩ = some (.int .i64 t259):=(c_ BK261.out 2).trans rfl;have hcz21_3 : w20.cell? ⟨gb261,3,none⟩ = some (.int .i64 t260):=(c_ BK261.out 3).trans rfl;have hfz21_0:=f_ BK261.out 0;have hfz21_1:=f_ BK261.out 1;have hfz21_2:=f_ BK261.out 2;have hfz21_3:=f_ BK261.out 3))
     go_roundg k1
     case measure=>have:=HK1.out;omega
     case rel=>exact ⟨(y262),(x4_1.extract (t257 : Int).toNat x4_1.size),(by first|rfl|(simp;done)|(simp [*];done)),H',⟨by have:=HK1.out;omega⟩,⟨by (with_reducible repeat (first|apply Kd.R_alloc|apply Kd.R_drewN|apply Kd.R_drew));exact Kd.R_mono HO264.out (fun _ hk=>trivial)⟩,⟨puM HB.out GE261.out⟩⟩
    ·rw [if_neg c16] at H
     exact absurd H (by simp)

/-! ### impl_StreamOk: function 11 -/
def impl_StreamOk.f (k : Nat) (a0_0 : ByteArray) (l0_1 : List (S41)) : Option (Bool) := (impl_TextOk.f a0_0).bind fun t266 => (if t266 = true then ((impl_pieces.f k a0_0).bind fun t267 => ((slices_EqualFunc_Piece.f k l0_1 t267).bind fun t270 => (some t270))) else (some false))
theorem impl_StreamOk.mono : ∀ a0 a1 k, LeO (impl_StreamOk.f k a0 a1) (impl_StreamOk.f (k + 1) a0 a1) := by
 intro a0 a1 k
 unfold impl_StreamOk.f
 repeat' first
   | (with_reducible exact impl_pieces.mono _ _)
   | (with_reducible exact slices_EqualFunc_Piece.mono _ _ _)
   | (with_reducible exact LeO.refl _)
   | (with_reducible exact LeO.none _)
   | (with_reducible refine LeO.ite ?_ ?_)
   | (with_reducible refine LeO.bind ?_ (fun _ => ?_))
   | exact impl_pieces.mono _ _
   | exact slices_EqualFunc_Piece.mono _ _ _
   | exact LeO.none _
   | refine LeO.ite ?_ ?_
   | refine LeO.bind ?_ (fun _ => ?_)
theorem impl_StreamOk.calls (k : Nat) (a0_0 : ByteArray) (A0_1 : Option Addr) (c0_1 : Nat) (l0_1 : List (S41)) (r : Bool) (w : World) (hr0_1 : Kd.C k41 w A0_1 l0_1.length l0_1) (hc0_1 : l0_1.length ≤ c0_1) (hG : GV w) (h : impl_StreamOk.f k a0_0 l0_1 = some r) :
  Calls Tryd.prog 11 #[.agg #[.string a0_0,.slice A0_1 l0_1.length c0_1]] w fun e w'=>e = .returned (.bool r) ∧ Below w.heap.size w w':=by
 have hu29:=Tryd.underlying29
 have HG:=m_ hG
 clear hG
 have HR0_1:=m_ hr0_1
 have HC0_1:=m_ hc0_1
 clear hr0_1 hc0_1
 have HB:=m_ (Below.refl w.heap.size w)
 have H : ((impl_TextOk.f a0_0).bind fun t266=>(if t266 = true then ((impl_pieces.f k a0_0).bind fun t267=>((slices_EqualFunc_Piece.f k l0_1 t267).bind fun t270=>(some t270))) else (some false))) = some r:=h
 clear h
 replace H:=Option.bind_eq_some_iff.mp H
 obtain ⟨t266,A20,H⟩:=H
 replace H : (if t266 = true then ((impl_pieces.f k a0_0).bind fun t267=>((slices_EqualFunc_Piece.f k l0_1 t267).bind fun t270=>(some t270))) else (some false)) = some r:=H
 have A2:=m_ A20
 clear A20
 by_cases c3 : t266 = true
 ·subst c3
  have H1 : ((impl_pieces.f k a0_0).bind fun t267=>((slices_EqualFunc_Piece.f k l0_1 t267).bind fun t270=>(some t270))) = some r:=by rw [if_pos rfl] at H;exact H
  clear H
  have H:=H1
  clear H1
  replace H:=Option.bind_eq_some_iff.mp H
  obtain ⟨t267,A40,H⟩:=H
  replace H : ((slices_EqualFunc_Piece.f k l0_1 t267).bind fun t270=>(some t270)) = some r:=H
  have A4:=m_ A40
  clear A40
  replace H:=Option.bind_eq_some_iff.mp H
  obtain ⟨t270,A50,H⟩:=H
  replace H : (some t270) = some r:=H
  have A5:=m_ A50
  clear A50
  obtain rfl:=Option.some.inj H
  go_enter Tryd.func11,Tryd.ntmps11
  try go_wp2_with (first|((with_reducible refine gate_dst (N:=1) rfl ?_);refine box_event ?hg (N:=1) ?hd (cs:=#[.string a0_0,.slice A0_1 l0_1.length c0_1]) (t:=29) ?hr ?_;(case hd=>rfl);(case hg=>rfl);(case hr=>first|(go_simp;done)|(go_simp;rfl));intro gb265 hg w6 hbox hb;have n0_:=m_ (l5_ (puL HB.out) hb);have n1_:=m_ (hbox);have n2_:=m_ ((by rw [hg];exact (l6_ (puL HB.out)) : w.heap.size ≤ gb265));have n3_:=m_ ((by rw [hg];exact (l6_ (puL HB.out)) : w.heap.size ≤ gb265));revert n0_ n1_ n2_ n3_;clear HB;intro HB BK265 GW265 GE265;clear hb hbox hg;have hcz7_0 : w6.cell? ⟨gb265,0,none⟩ = some (.string a0_0):=(c_ BK265.out 0).trans rfl;have hcz7_1 : w6.cell? ⟨gb265,1,none⟩ = some (.slice A0_1 l0_1.length c0_1):=(c_ BK265.out 1).trans rfl)|((with_reducible refine gate_callee (f:=25) rfl ?_);refine goesL_ (some 5) rfl rfl Tryd.func25 (by kernel_rfl) rfl #[.string a0_0] rfl lens ?_;(with_reducible refine (impl_TextOk.calls a0_0 true _ A2.out).mono ?_);rintro e w8 ⟨rfl,hb⟩;refine ⟨_,rfl,?_⟩;have n0_:=m_ (blk_below (g:=gb265) (o:=.cells #[.string a0_0,.slice A0_1 l0_1.length c0_1] 29 (0,0)) (puB BK265.out) hb);have n1_:=m_ (l5_ (puM HB.out GE265.out) hb);revert n0_ n1_;clear BK265 HB;intro BK265 HB;(try clear hb);(try clear hb2);(try clear hk);(try clear hi)))
  have n0_:=m_ (b2_ BK265.out)
  have n1_:=m_ (l3_ HB.out)
  clear BK265
  clear HB
  have BK265:=n0_
  have HB:=n1_
  clear n0_ n1_
  refine start_ (n:=7) (S:=fun w'=>w'.cell? ⟨gb265,0,none⟩ = some (.string a0_0) ∧ w'.cell? ⟨gb265,1,none⟩ = some (.slice A0_1 l0_1.length c0_1)) (ds:=[]) #[false,false,false,false,false,false,false] (by kernel_rfl) rfl rfl ⟨(c_ BK265.out 0).trans rfl,(c_ BK265.out 1).trans rfl⟩ (fun hHeld=>?_)
  generalize w8.drew = w9 at BK265 HB hHeld ⊢
  refine pureK 0 (some 7) ?_
  refine pureK 2 (some 9) ?_
  refine take_ (i:=1) (N:=some 8) (v:=?_) (a':=?_) #[true,true,true,false,false,false,false] rfl rfl (by kernel_rfl) (fun _ _ _ h=>h) (Or.inl ⟨by rfl,?_⟩) hHeld ?_ ?_
  rotate_left
  ·rintro w' ⟨s0,s1⟩
   go_simp
   with_reducible rfl
  rotate_left
  ·simp only [Act.put,s1_,s2_,s3_,i64_w,i32_w]
   rfl
  refine take_ (i:=3) (N:=some 10) (v:=?_) (a':=?_) #[true,true,true,true,false,false,false] rfl rfl (by kernel_rfl) (fun _ _ _ h=>h) (Or.inl ⟨by rfl,?_⟩) hHeld ?_ ?_
  rotate_left
  ·rintro w' ⟨s0,s1⟩
   go_simp
   with_reducible rfl
  rotate_left
  ·simp only [Act.put,s1_,s2_,s3_,i64_w,i32_w]
   rfl
  refine one_ (i:=4) (N:=some 11) #[true,true,true,true,true,false,false] rfl rfl (by kernel_rfl) (by decide) (fun K hK=>?_)
  refine goes_ Tryd.func27 (by kernel_rfl) rfl #[.string a0_0] (by rfl) rfl rfl lens ?_
  with_reducible refine (impl_pieces.calls k a0_0 t267 _ ?side1 A4.out).mono ?_
  (case side1=>first|(with_reducible exact HG.out)|exact GV_below HG.out (puM HB.out GE265.out))
  rintro e w10 ⟨v268,rfl,ho0,hb⟩
  refine ⟨_,rfl,?_⟩
  have n0_:=m_ (Kd.R_lower ho0 (l6_ (puM HB.out GE265.out)))
  have n1_:=m_ (blk_below (g:=gb265) (o:=.cells #[.string a0_0,.slice A0_1 l0_1.length c0_1] 29 (0,0)) (puB BK265.out) hb)
  have n2_:=m_ (l5_ (puM HB.out GE265.out) hb)
  clear BK265
  clear HB
  have HO269:=n0_
  have BK265:=n1_
  have HB:=n2_
  clear n0_ n1_ n2_
  (try clear hb)
  (try clear hb2)
  (try clear hk)
  (try clear hi)
  (try clear ho0)
  obtain ⟨Ao11,co11,eo11⟩:=Kd.R_slice HO269.out
  (first|subst eo11|(injection eo11 with f1_ f2_ f3_;have f4_:=f1_.symm;have f5_:=f3_.symm;clear f1_ f2_ f3_;subst f4_;subst f5_))
  refine hK.out _ _ ⟨(c_ BK265.out 0).trans rfl,(c_ BK265.out 1).trans rfl⟩ (fun hHeld=>?_)
  clear hK K
  refine norm_ (a':=?_) ?_ ?_
  rotate_left
  ·show Act.put _ (some 11) _ = _
   simp only [Act.put,s1_,s2_,s3_,i64_w,i32_w]
   rfl
  refine one_ (i:=5) (N:=some 12) #[true,true,true,true,true,true,false] rfl rfl (by kernel_rfl) (by decide) (fun K hK=>?_)
  refine goes_ Tryd.func26 (by kernel_rfl) rfl #[.slice A0_1 l0_1.length c0_1,.slice Ao11 t267.length co11,.func (.func 28) #[] #[]] (by rfl) rfl rfl lens ?_
  with_reducible refine (slices_EqualFunc_Piece.calls k _ _ l0_1 _ _ t267 t270 _ ?side1 ?side2 ?side3 ?side4 A5.out).mono ?_
  (case side1=>repeat (first|exact (Kd.C_below HR0_1.out HB.out)|(with_reducible refine Kd.C_alloc ?_ _)|(with_reducible refine Kd.C_drewN ?_ _)|(with_reducible refine Kd.C_drew ?_)))
  (case side2=>exact HC0_1.out)
  (case side3=>repeat (first|exact (Kd.R_reads' HO269.out).2.2|(with_reducible refine Kd.C_alloc ?_ _)|(with_reducible refine Kd.C_drewN ?_ _)|(with_reducible refine Kd.C_drew ?_)))
  (case side4=>exact (Kd.R_reads' HO269.out).2.1)
  rintro e w12 ⟨rfl,hb⟩
  refine ⟨_,rfl,?_⟩
  have n0_:=m_ (Kd.R_below (puR HO269.out) hb)
  have n1_:=m_ (blk_below (g:=gb265) (o:=.cells #[.string a0_0,.slice A0_1 l0_1.length c0_1] 29 (0,0)) (puB BK265.out) hb)
  have n2_:=m_ (l5_ (puM HB.out GE265.out) hb)
  clear HO269
  clear BK265
  clear HB
  have HO269:=n0_
  have BK265:=n1_
  have HB:=n2_
  clear n0_ n1_ n2_
  (try clear hb)
  (try clear hb2)
  (try clear hk)
  (try clear hi)
  refine hK.out _ _ ⟨(c_ BK265.out 0).trans rfl,(c_ BK265.out 1).trans rfl⟩ (fun hHeld=>?_)
  clear hK K
  refine norm_ (a':=?_) ?_ ?_
  rotate_left
  ·show Act.put _ (some 12) _ = _
   simp only [Act.put,s1_,s2_,s3_,i64_w,i32_w]
   rfl
  refine pureK 6 (some 2) ?_
  refine done_ (by kernel_rfl) ?_
  try go_wp2
  go_ret
  exact ⟨eqs,puM HB.out GE265.out⟩
 ·replace c3:=Bool.eq_false_iff.mpr c3
  subst c3
  have H1 : (some false) = some r:=by rw [if_neg (show ¬ (false = true) by decide)] at H;exact H
  clear H
  have H:=H1
  clear H1
  obtain rfl:=Option.some.inj H
  go_enter Tryd.func11,Tryd.ntmps11
  go_wp2_with (first|((with_reducible refine gate_dst (N:=1) rfl ?_);refine box_event ?hg (N:=1) ?hd (cs:=#[.string a0_0,.slice A0_1 l0_1.length c0_1]) (t:=29) ?hr ?_;(case hd=>rfl);(case hg=>rfl);(case hr=>first|(go_simp;done)|(go_simp;rfl));intro gb265 hg w13 hbox hb;have n0_:=m_ (l5_ (puL HB.out) hb);have n1_:=m_ (hbox);have n2_:=m_ ((by rw [hg];exact (l6_ (puL HB.out)) : w.heap.size ≤ gb265));have n3_:=m_ ((by rw [hg];exact (l6_ (puL HB.out)) : w.heap.size ≤ gb265));revert n0_ n1_ n2_ n3_;clear HB;intro HB BK265 GW265 GE265;clear hb hbox hg;have hcz14_0 : w13.cell? ⟨gb265,0,none⟩ = some (.string a0_0):=(c_ BK265.out 0).trans rfl;have hcz14_1 : w13.cell? ⟨gb265,1,none⟩ = some (.slice A0_1 l0_1.length c0_1):=(c_ BK265.out 1).trans rfl)|((with_reducible refine gate_callee (f:=25) rfl ?_);refine goesL_ (some 5) rfl rfl Tryd.func25 (by kernel_rfl) rfl #[.string a0_0] rfl lens ?_;(with_reducible refine (impl_TextOk.calls a0_0 false _ A2.out).mono ?_);rintro e w15 ⟨rfl,hb⟩;refine ⟨_,rfl,?_⟩;have n0_:=m_ (blk_below (g:=gb265) (o:=.cells #[.string a0_0,.slice A0_1 l0_1.length c0_1] 29 (0,0)) (puB BK265.out) hb);have n1_:=m_ (l5_ (puM HB.out GE265.out) hb);revert n0_ n1_;clear BK265 HB;intro BK265 HB;(try clear hb);(try clear hb2);(try clear hk);(try clear hi)))
  go_ret
  exact ⟨eqs,puM HB.out GE265.out⟩

end Go.Proofs.YtkcjmmhleepjeaaDoor.A
