-- Printed by myprint.py (wip/tools) out of the translation. Not trusted: Lean checks it.
import Derived.Test.YtclhmoghkcnkmaaDoorAx0
import Derived.Test.YtclhmoghkcnkmaaDoorAx9
import Derived.Test.YtclhmoghkcnkmaaDoorAx10
import Derived.Test.YtclhmoghkcnkmaaDoorAx11
import Derived.Test.YtclhmoghkcnkmaaDoorAx16
namespace Go.Proofs.YtclhmoghkcnkmaaDoor.A
open Go.RowKit Go.Proofs.YtclhmoghkcnkmaaDoorW.PrintWords Go.Proofs.YtclhmoghkcnkmaaDoorW.PrintLast Go.Proofs.YtclhmoghkcnkmaaDoorW.PrintMore
attribute [local go_sem] max2_int min2_int max_two min_two max_three min_three max_four min_four   -- for this text's walks alone
set_option linter.unusedVariables false
set_option linter.unusedSimpArgs false

/-! ### laws_FnExactConvNew: function 8 -/
def laws_FnExactConvNew.f (k : Nat) (a0_0 : Int) (a0_1 : Int) (a1_0 : Int) (a1_1 : Int) (a2 : ByteArray) (a3 : ByteArray) : Option (Bool) := if (a2.size : Int) > 1048576 then (some true) else (if (a3.size : Int) > 1048576 then (some true) else ((laws_toEnd.f a0_0 a0_1).bind fun bt342 => ((laws_toEnd.f a1_0 a1_1).bind fun bt344 => ((spec_ConvNew.f k bt342.1 bt342.2 bt344.1 bt344.2 a2 a3).bind fun bt346 => ((laws_toEnd.f a0_0 a0_1).bind fun bt358 => ((laws_toEnd.f a1_0 a1_1).bind fun bt360 => ((impl_ConvNew.f k bt358.1 bt358.2 bt360.1 bt360.2 a2 a3).bind fun bt362 => ((laws_eqConv.f bt362.1 bt362.2.1 bt362.2.2.1 bt362.2.2.2.1 bt362.2.2.2.2.1 bt362.2.2.2.2.2.1 bt362.2.2.2.2.2.2.1 bt362.2.2.2.2.2.2.2.1 bt362.2.2.2.2.2.2.2.2.1 bt362.2.2.2.2.2.2.2.2.2.1 bt346.1 bt346.2.1 bt346.2.2.1 bt346.2.2.2.1 bt346.2.2.2.2.1 bt346.2.2.2.2.2.1 bt346.2.2.2.2.2.2.1 bt346.2.2.2.2.2.2.2.1 bt346.2.2.2.2.2.2.2.2.1 bt346.2.2.2.2.2.2.2.2.2.1).bind fun t374 => (if t374 = true then (if (bt362.2.2.2.2.2.2.2.2.2.2 != bt346.2.2.2.2.2.2.2.2.2.2) = true then (some false) else (some true)) else (some false))))))))))
theorem laws_FnExactConvNew.mono : ∀ a0 a1 a2 a3 a4 a5 k, LeO (laws_FnExactConvNew.f k a0 a1 a2 a3 a4 a5) (laws_FnExactConvNew.f (k + 1) a0 a1 a2 a3 a4 a5) := by
 intro a0 a1 a2 a3 a4 a5 k
 unfold laws_FnExactConvNew.f
 repeat' first
   | (with_reducible exact impl_ConvNew.mono _ _ _ _ _ _ _)
   | (with_reducible exact spec_ConvNew.mono _ _ _ _ _ _ _)
   | (with_reducible exact LeO.refl _)
   | (with_reducible exact LeO.none _)
   | (with_reducible refine LeO.ite ?_ ?_)
   | (with_reducible refine LeO.bind ?_ (fun _ => ?_))
   | exact impl_ConvNew.mono _ _ _ _ _ _ _
   | exact spec_ConvNew.mono _ _ _ _ _ _ _
   | exact LeO.none _
   | refine LeO.ite ?_ ?_
   | refine LeO.bind ?_ (fun _ => ?_)
def laws_FnExactConvNew.T5 : Bool × List (List Nat × List Nat) := (true, [([], []), ([0], [0]), ([], []), ([2, 1], [2]), ([], []), ([], []), ([1, 3, 4, 5, 3], [1, 3, 4, 5]), ([6], [6]), ([7], [7]), ([7], [7]), ([], []), ([10, 8, 6, 0, 1, 2, 3, 4, 5, 6, 7, 8, 10], [8, 10]), ([9, 11, 0, 1, 2, 3, 4, 5, 6, 7, 8, 9, 10, 11], [9])])
def laws_FnExactConvNew.B5 : List Nat := [0, 1, 0, 7, 0, 0, 63, 127, 255, 255, 0, 1535, 4095]
theorem laws_FnExactConvNew.tab5 : rtab .any (opsOf Tryd.f8 5) = laws_FnExactConvNew.T5 := by kernel_rfl
theorem laws_FnExactConvNew.bits5 : waitsOk laws_FnExactConvNew.T5.2 laws_FnExactConvNew.B5 = true := by kernel_rfl
def laws_FnExactConvNew.T6 : Bool × List (List Nat × List Nat) := (true, [([], []), ([0], [0]), ([], []), ([2, 1], [2]), ([], []), ([], []), ([1, 3, 4, 5, 3], [1, 3, 4, 5]), ([6], [6]), ([7], [7]), ([7], [7]), ([], []), ([10, 8, 6, 0, 1, 2, 3, 4, 5, 6, 7, 8, 10], [8, 10]), ([9, 11, 0, 1, 2, 3, 4, 5, 6, 7, 8, 9, 10, 11], [9])])
def laws_FnExactConvNew.B6 : List Nat := [0, 1, 0, 7, 0, 0, 63, 127, 255, 255, 0, 1535, 4095]
theorem laws_FnExactConvNew.tab6 : rtab .any (opsOf Tryd.f8 6) = laws_FnExactConvNew.T6 := by kernel_rfl
theorem laws_FnExactConvNew.bits6 : waitsOk laws_FnExactConvNew.T6.2 laws_FnExactConvNew.B6 = true := by kernel_rfl
set_option maxHeartbeats 8000000 in
set_option maxRecDepth 100000 in
theorem laws_FnExactConvNew.calls (k : Nat) (a0_0 : Int) (a0_1 : Int) (a1_0 : Int) (a1_1 : Int) (a2 : ByteArray) (a3 : ByteArray) (r : Bool) (w : World) (hG : GV w) (h : laws_FnExactConvNew.f k a0_0 a0_1 a1_0 a1_1 a2 a3 = some r) :
  Calls Tryd.prog 8 #[.agg #[.int .i64 a0_0,.int .i64 a0_1],.agg #[.int .i64 a1_0,.int .i64 a1_1],.string a2,.string a3] w fun e w'=>e = .returned (.bool r) ∧ Below w.heap.size w w':=by
 have hu40:=Tryd.underlying40
 have hu42:=Tryd.underlying42
 have HG:=m_ hG
 clear hG
 have HB:=m_ (Below.refl w.heap.size w)
 have H : (if (a2.size : Int) > 1048576 then (some true) else (if (a3.size : Int) > 1048576 then (some true) else ((laws_toEnd.f a0_0 a0_1).bind fun bt342=>((laws_toEnd.f a1_0 a1_1).bind fun bt344=>((spec_ConvNew.f k bt342.1 bt342.2 bt344.1 bt344.2 a2 a3).bind fun bt346=>((laws_toEnd.f a0_0 a0_1).bind fun bt358=>((laws_toEnd.f a1_0 a1_1).bind fun bt360=>((impl_ConvNew.f k bt358.1 bt358.2 bt360.1 bt360.2 a2 a3).bind fun bt362=>((laws_eqConv.f bt362.1 bt362.2.1 bt362.2.2.1 bt362.2.2.2.1 bt362.2.2.2.2.1 bt362.2.2.2.2.2.1 bt362.2.2.2.2.2.2.1 bt362.2.2.2.2.2.2.2.1 bt362.2.2.2.2.2.2.2.2.1 bt362.2.2.2.2.2.2.2.2.2.1 bt346.1 bt346.2.1 bt346.2.2.1 bt346.2.2.2.1 bt346.2.2.2.2.1 bt346.2.2.2.2.2.1 bt346.2.2.2.2.2.2.1 bt346.2.2.2.2.2.2.2.1 bt346.2.2.2.2.2.2.2.2.1 bt346.2.2.2.2.2.2.2.2.2.1).bind fun t374=>(if t374 = true then (if (bt362.2.2.2.2.2.2.2.2.2.2 != bt346.2.2.2.2.2.2.2.2.2.2) = true then (some false) else (some true)) else (some false))))))))))) = some r:=h
 clear h
 by_cases c5 : (a2.size : Int) > 1048576
 ·rw [if_pos c5] at H
  have c5b0 : decide (1048576 < (a2.size : Int)) = true:=decide_eq_true c5
  have c5b1 : decide (1048576 < a2.size) = true:=decide_eq_true (by omega)
  clear c5
  obtain rfl:=Option.some.inj H
  go_enter Tryd.func8,Tryd.ntmps8
  go_wp2_with (first|((with_reducible refine gate_dst (N:=4) rfl ?_);refine box_event ?hg (N:=4) ?hd (cs:=#[.int .i64 a0_0,.int .i64 a0_1]) (t:=40) ?hr ?_;(case hd=>rfl);(case hg=>rfl);(case hr=>first|(go_simp;done)|(go_simp;rfl));intro gb340 hg w6 hbox hb;have n0_:=m_ (l5_ (by repeat (first|(with_reducible first|exact HB.out|apply l1_|apply l2_|apply l3_)|exact HB.out)) hb);have n1_:=m_ (hbox);have n2_:=m_ ((by rw [hg];exact (l6_ (by repeat (first|(with_reducible first|exact HB.out|apply l1_|apply l2_|apply l3_)|exact HB.out))) : w.heap.size ≤ gb340));have n3_:=m_ ((by rw [hg];exact (l6_ (by repeat (first|(with_reducible first|exact HB.out|apply l1_|apply l2_|apply l3_)|exact HB.out))) : w.heap.size ≤ gb340));clear HB;have HB:=n0_;have BK340:=n1_;have GW340:=n2_;have GE340:=n3_;clear n0_ n1_ n2_ n3_;clear hb hbox hg)|((with_reducible refine gate_dst (N:=5) rfl ?_);refine box_event ?hg (N:=5) ?hd (cs:=#[.int .i64 a1_0,.int .i64 a1_1]) (t:=40) ?hr ?_;(case hd=>rfl);(case hg=>rfl);(case hr=>first|(go_simp;done)|(go_simp;rfl));intro gb341 hg w7 hbox hb;have n0_:=m_ (blk_below (g:=gb340) (o:=.cells #[.int .i64 a0_0,.int .i64 a0_1] 40 (0,0)) (by (with_reducible repeat first|apply b1_|apply b2_|apply b3_);exact BK340.out) hb);have n1_:=m_ (l5_ (by repeat (first|(with_reducible first|exact HB.out|apply l1_|apply l2_|apply l3_|refine l4_ ?_ GE340.out)|exact HB.out)) hb);have n2_:=m_ (hbox);have n3_:=m_ ((by rw [hg];exact (l6_ (by repeat (first|(with_reducible first|exact HB.out|apply l1_|apply l2_|apply l3_|refine l4_ ?_ GE340.out)|exact HB.out))) : w.heap.size ≤ gb341));have n4_:=n3_;have n5_:=m_ ((by rw [hg];exact Nat.ne_of_lt (blk_lt (g:=gb340) (o:=.cells #[.int .i64 a0_0,.int .i64 a0_1] 40 (0,0)) (by (with_reducible repeat first|apply b1_|apply b2_|apply b3_);exact BK340.out)) : gb340 ≠ gb341));have n6_:=m_ n5_.out.symm;clear BK340;clear HB;have BK340:=n0_;have HB:=n1_;have BK341:=n2_;have GW341:=n3_;have GE341:=n4_;have NB340_341:=n5_;have NB341_340:=n6_;clear n0_ n1_ n2_ n3_ n4_ n5_ n6_;clear hb hbox hg))
  go_ret
  exact ⟨by first|rfl|(simp [errW_none,errW_some] <;> rfl)|(simp [*,errW_none,errW_some] <;> rfl)|(simp [errW_none,errW_some,pk_empty1,pk_empty2];done)|(simp [*,errW_none,errW_some,pk_empty1,pk_empty2];done),by repeat (first|(with_reducible first|exact HB.out|apply l1_|apply l2_|apply l3_|refine l4_ ?_ GE340.out|refine l4_ ?_ GE341.out)|exact HB.out)⟩
 ·rw [if_neg c5] at H
  have c5b0 : decide (1048576 < (a2.size : Int)) = false:=decide_eq_false c5
  have c5b1 : decide (1048576 < a2.size) = false:=decide_eq_false (by omega)
  clear c5
  by_cases c8 : (a3.size : Int) > 1048576
  ·rw [if_pos c8] at H
   have c8b0 : decide (1048576 < (a3.size : Int)) = true:=decide_eq_true c8
   have c8b1 : decide (1048576 < a3.size) = true:=decide_eq_true (by omega)
   clear c8
   obtain rfl:=Option.some.inj H
   go_enter Tryd.func8,Tryd.ntmps8
   go_wp2_with (first|((with_reducible refine gate_dst (N:=4) rfl ?_);refine box_event ?hg (N:=4) ?hd (cs:=#[.int .i64 a0_0,.int .i64 a0_1]) (t:=40) ?hr ?_;(case hd=>rfl);(case hg=>rfl);(case hr=>first|(go_simp;done)|(go_simp;rfl));intro gb340 hg w9 hbox hb;have n0_:=m_ (l5_ (by repeat (first|(with_reducible first|exact HB.out|apply l1_|apply l2_|apply l3_)|exact HB.out)) hb);have n1_:=m_ (hbox);have n2_:=m_ ((by rw [hg];exact (l6_ (by repeat (first|(with_reducible first|exact HB.out|apply l1_|apply l2_|apply l3_)|exact HB.out))) : w.heap.size ≤ gb340));have n3_:=m_ ((by rw [hg];exact (l6_ (by repeat (first|(with_reducible first|exact HB.out|apply l1_|apply l2_|apply l3_)|exact HB.out))) : w.heap.size ≤ gb340));clear HB;have HB:=n0_;have BK340:=n1_;have GW340:=n2_;have GE340:=n3_;clear n0_ n1_ n2_ n3_;clear hb hbox hg)|((with_reducible refine gate_dst (N:=5) rfl ?_);refine box_event ?hg (N:=5) ?hd (cs:=#[.int .i64 a1_0,.int .i64 a1_1]) (t:=40) ?hr ?_;(case hd=>rfl);(case hg=>rfl);(case hr=>first|(go_simp;done)|(go_simp;rfl));intro gb341 hg w10 hbox hb;have n0_:=m_ (blk_below (g:=gb340) (o:=.cells #[.int .i64 a0_0,.int .i64 a0_1] 40 (0,0)) (by (with_reducible repeat first|apply b1_|apply b2_|apply b3_);exact BK340.out) hb);have n1_:=m_ (l5_ (by repeat (first|(with_reducible first|exact HB.out|apply l1_|apply l2_|apply l3_|refine l4_ ?_ GE340.out)|exact HB.out)) hb);have n2_:=m_ (hbox);have n3_:=m_ ((by rw [hg];exact (l6_ (by repeat (first|(with_reducible first|exact HB.out|apply l1_|apply l2_|apply l3_|refine l4_ ?_ GE340.out)|exact HB.out))) : w.heap.size ≤ gb341));have n4_:=n3_;have n5_:=m_ ((by rw [hg];exact Nat.ne_of_lt (blk_lt (g:=gb340) (o:=.cells #[.int .i64 a0_0,.int .i64 a0_1] 40 (0,0)) (by (with_reducible repeat first|apply b1_|apply b2_|apply b3_);exact BK340.out)) : gb340 ≠ gb341));have n6_:=m_ n5_.out.symm;clear BK340;clear HB;have BK340:=n0_;have HB:=n1_;have BK341:=n2_;have GW341:=n3_;have GE341:=n4_;have NB340_341:=n5_;have NB341_340:=n6_;clear n0_ n1_ n2_ n3_ n4_ n5_ n6_;clear hb hbox hg))
   go_ret
   exact ⟨by first|rfl|(simp [errW_none,errW_some] <;> rfl)|(simp [*,errW_none,errW_some] <;> rfl)|(simp [errW_none,errW_some,pk_empty1,pk_empty2];done)|(simp [*,errW_none,errW_some,pk_empty1,pk_empty2];done),by repeat (first|(with_reducible first|exact HB.out|apply l1_|apply l2_|apply l3_|refine l4_ ?_ GE340.out|refine l4_ ?_ GE341.out)|exact HB.out)⟩
  ·rw [if_neg c8] at H
   have c8b0 : decide (1048576 < (a3.size : Int)) = false:=decide_eq_false c8
   have c8b1 : decide (1048576 < a3.size) = false:=decide_eq_false (by omega)
   clear c8
   replace H:=Option.bind_eq_some_iff.mp H
   obtain ⟨⟨t342,t343⟩,A110,H⟩:=H
   replace H : ((laws_toEnd.f a1_0 a1_1).bind fun bt344=>((spec_ConvNew.f k t342 t343 bt344.1 bt344.2 a2 a3).bind fun bt346=>((laws_toEnd.f a0_0 a0_1).bind fun bt358=>((laws_toEnd.f a1_0 a1_1).bind fun bt360=>((impl_ConvNew.f k bt358.1 bt358.2 bt360.1 bt360.2 a2 a3).bind fun bt362=>((laws_eqConv.f bt362.1 bt362.2.1 bt362.2.2.1 bt362.2.2.2.1 bt362.2.2.2.2.1 bt362.2.2.2.2.2.1 bt362.2.2.2.2.2.2.1 bt362.2.2.2.2.2.2.2.1 bt362.2.2.2.2.2.2.2.2.1 bt362.2.2.2.2.2.2.2.2.2.1 bt346.1 bt346.2.1 bt346.2.2.1 bt346.2.2.2.1 bt346.2.2.2.2.1 bt346.2.2.2.2.2.1 bt346.2.2.2.2.2.2.1 bt346.2.2.2.2.2.2.2.1 bt346.2.2.2.2.2.2.2.2.1 bt346.2.2.2.2.2.2.2.2.2.1).bind fun t374=>(if t374 = true then (if (bt362.2.2.2.2.2.2.2.2.2.2 != bt346.2.2.2.2.2.2.2.2.2.2) = true then (some false) else (some true)) else (some false)))))))) = some r:=H
   have A11:=m_ A110
   clear A110
   replace H:=Option.bind_eq_some_iff.mp H
   obtain ⟨⟨t344,t345⟩,A120,H⟩:=H
   replace H : ((spec_ConvNew.f k t342 t343 t344 t345 a2 a3).bind fun bt346=>((laws_toEnd.f a0_0 a0_1).bind fun bt358=>((laws_toEnd.f a1_0 a1_1).bind fun bt360=>((impl_ConvNew.f k bt358.1 bt358.2 bt360.1 bt360.2 a2 a3).bind fun bt362=>((laws_eqConv.f bt362.1 bt362.2.1 bt362.2.2.1 bt362.2.2.2.1 bt362.2.2.2.2.1 bt362.2.2.2.2.2.1 bt362.2.2.2.2.2.2.1 bt362.2.2.2.2.2.2.2.1 bt362.2.2.2.2.2.2.2.2.1 bt362.2.2.2.2.2.2.2.2.2.1 bt346.1 bt346.2.1 bt346.2.2.1 bt346.2.2.2.1 bt346.2.2.2.2.1 bt346.2.2.2.2.2.1 bt346.2.2.2.2.2.2.1 bt346.2.2.2.2.2.2.2.1 bt346.2.2.2.2.2.2.2.2.1 bt346.2.2.2.2.2.2.2.2.2.1).bind fun t374=>(if t374 = true then (if (bt362.2.2.2.2.2.2.2.2.2.2 != bt346.2.2.2.2.2.2.2.2.2.2) = true then (some false) else (some true)) else (some false))))))) = some r:=H
   have A12:=m_ A120
   clear A120
   replace H:=Option.bind_eq_some_iff.mp H
   obtain ⟨⟨t346,t347,t348,t349,t350,t351,t352,t353,t354,t355,t356⟩,A130,H⟩:=H
   replace H : ((laws_toEnd.f a0_0 a0_1).bind fun bt358=>((laws_toEnd.f a1_0 a1_1).bind fun bt360=>((impl_ConvNew.f k bt358.1 bt358.2 bt360.1 bt360.2 a2 a3).bind fun bt362=>((laws_eqConv.f bt362.1 bt362.2.1 bt362.2.2.1 bt362.2.2.2.1 bt362.2.2.2.2.1 bt362.2.2.2.2.2.1 bt362.2.2.2.2.2.2.1 bt362.2.2.2.2.2.2.2.1 bt362.2.2.2.2.2.2.2.2.1 bt362.2.2.2.2.2.2.2.2.2.1 t346 t347 t348 t349 t350 t351 t352 t353 t354 t355).bind fun t374=>(if t374 = true then (if (bt362.2.2.2.2.2.2.2.2.2.2 != t356) = true then (some false) else (some true)) else (some false)))))) = some r:=H
   have A13:=m_ A130
   clear A130
   replace H:=Option.bind_eq_some_iff.mp H
   obtain ⟨⟨t358,t359⟩,A140,H⟩:=H
   replace H : ((laws_toEnd.f a1_0 a1_1).bind fun bt360=>((impl_ConvNew.f k t358 t359 bt360.1 bt360.2 a2 a3).bind fun bt362=>((laws_eqConv.f bt362.1 bt362.2.1 bt362.2.2.1 bt362.2.2.2.1 bt362.2.2.2.2.1 bt362.2.2.2.2.2.1 bt362.2.2.2.2.2.2.1 bt362.2.2.2.2.2.2.2.1 bt362.2.2.2.2.2.2.2.2.1 bt362.2.2.2.2.2.2.2.2.2.1 t346 t347 t348 t349 t350 t351 t352 t353 t354 t355).bind fun t374=>(if t374 = true then (if (bt362.2.2.2.2.2.2.2.2.2.2 != t356) = true then (some false) else (some true)) else (some false))))) = some r:=H
   have A14:=m_ A140
   clear A140
   replace H:=Option.bind_eq_some_iff.mp H
   obtain ⟨⟨t360,t361⟩,A150,H⟩:=H
   replace H : ((impl_ConvNew.f k t358 t359 t360 t361 a2 a3).bind fun bt362=>((laws_eqConv.f bt362.1 bt362.2.1 bt362.2.2.1 bt362.2.2.2.1 bt362.2.2.2.2.1 bt362.2.2.2.2.2.1 bt362.2.2.2.2.2.2.1 bt362.2.2.2.2.2.2.2.1 bt362.2.2.2.2.2.2.2.2.1 bt362.2.2.2.2.2.2.2.2.2.1 t346 t347 t348 t349 t350 t351 t352 t353 t354 t355).bind fun t374=>(if t374 = true then (if (bt362.2.2.2.2.2.2.2.2.2.2 != t356) = true then (some false) else (some true)) else (some false)))) = some r:=H
   have A15:=m_ A150
   clear A150
   replace H:=Option.bind_eq_some_iff.mp H
   obtain ⟨⟨t362,t363,t364,t365,t366,t367,t368,t369,t370,t371,t372⟩,A160,H⟩:=H
   replace H : ((laws_eqConv.f t362 t363 t364 t365 t366 t367 t368 t369 t370 t371 t346 t347 t348 t349 t350 t351 t352 t353 t354 t355).bind fun t374=>(if t374 = true then (if (t372 != t356) = true then (some false) else (some true)) else (some false))) = some r:=H
   have A16:=m_ A160
   clear A160
   replace H:=Option.bind_eq_some_iff.mp H
   obtain ⟨t374,A170,H⟩:=H
   replace H : (if t374 = true then (if (t372 != t356) = true then (some false) else (some true)) else (some false)) = some r:=H
   have A17:=m_ A170
   clear A170
   have HH_:=m_ H
   clear H
   go_enter Tryd.func8,Tryd.ntmps8
   try go_wp2_with (first|((with_reducible refine gate_dst (N:=4) rfl ?_);refine box_event ?hg (N:=4) ?hd (cs:=#[.int .i64 a0_0,.int .i64 a0_1]) (t:=40) ?hr ?_;(case hd=>rfl);(case hg=>rfl);(case hr=>first|(go_simp;done)|(go_simp;rfl));intro gb340 hg w20 hbox hb;have n0_:=m_ (l5_ (by repeat (first|(with_reducible first|exact HB.out|apply l1_|apply l2_|apply l3_)|exact HB.out)) hb);have n1_:=m_ (hbox);have n2_:=m_ ((by rw [hg];exact (l6_ (by repeat (first|(with_reducible first|exact HB.out|apply l1_|apply l2_|apply l3_)|exact HB.out))) : w.heap.size ≤ gb340));have n3_:=m_ ((by rw [hg];exact (l6_ (by repeat (first|(with_reducible first|exact HB.out|apply l1_|apply l2_|apply l3_)|exact HB.out))) : w.heap.size ≤ gb340));clear HB;have HB:=n0_;have BK340:=n1_;have GW340:=n2_;have GE340:=n3_;clear n0_ n1_ n2_ n3_;clear hb hbox hg)|((with_reducible refine gate_dst (N:=5) rfl ?_);refine box_event ?hg (N:=5) ?hd (cs:=#[.int .i64 a1_0,.int .i64 a1_1]) (t:=40) ?hr ?_;(case hd=>rfl);(case hg=>rfl);(case hr=>first|(go_simp;done)|(go_simp;rfl));intro gb341 hg w21 hbox hb;have n0_:=m_ (blk_below (g:=gb340) (o:=.cells #[.int .i64 a0_0,.int .i64 a0_1] 40 (0,0)) (by (with_reducible repeat first|apply b1_|apply b2_|apply b3_);exact BK340.out) hb);have n1_:=m_ (l5_ (by repeat (first|(with_reducible first|exact HB.out|apply l1_|apply l2_|apply l3_|refine l4_ ?_ GE340.out)|exact HB.out)) hb);have n2_:=m_ (hbox);have n3_:=m_ ((by rw [hg];exact (l6_ (by repeat (first|(with_reducible first|exact HB.out|apply l1_|apply l2_|apply l3_|refine l4_ ?_ GE340.out)|exact HB.out))) : w.heap.size ≤ gb341));have n4_:=n3_;have n5_:=m_ ((by rw [hg];exact Nat.ne_of_lt (blk_lt (g:=gb340) (o:=.cells #[.int .i64 a0_0,.int .i64 a0_1] 40 (0,0)) (by (with_reducible repeat first|apply b1_|apply b2_|apply b3_);exact BK340.out)) : gb340 ≠ gb341));have n6_:=m_ n5_.out.symm;clear BK340;clear HB;have BK340:=n0_;have HB:=n1_;have BK341:=n2_;have GW341:=n3_;have GE341:=n4_;have NB340_341:=n5_;have NB341_340:=n6_;clear n0_ n1_ n2_ n3_ n4_ n5_ n6_;clear hb hbox hg))
   have n0_:=m_ (b2_ BK340.out)
   have n1_:=m_ (b2_ BK341.out)
   have n2_:=m_ (l3_ HB.out)
   clear BK340
   clear BK341
   clear HB
   have BK340:=n0_
   have BK341:=n1_
   have HB:=n2_
   clear n0_ n1_ n2_
   refine start_ (n:=13) (S:=fun w'=>w'.cell? ⟨gb340,0,none⟩ = some (.int .i64 a0_0) ∧ w'.cell? ⟨gb340,1,none⟩ = some (.int .i64 a0_1) ∧ w'.cell? ⟨gb341,0,none⟩ = some (.int .i64 a1_0) ∧ w'.cell? ⟨gb341,1,none⟩ = some (.int .i64 a1_1)) (ds:=[]) #[false,false,false,false,false,false,false,false,false,false,false,false,false] (by kernel_rfl) rfl rfl ⟨(c_ BK340.out 0).trans rfl,(c_ BK340.out 1).trans rfl,(c_ BK341.out 0).trans rfl,(c_ BK341.out 1).trans rfl⟩ (fun hHeld=>?_);refine with_tabW laws_FnExactConvNew.tab5 laws_FnExactConvNew.bits5 (fun HT_ HW_=>?_)
   generalize w21.drew = w22 at BK340 BK341 HB hHeld ⊢
   refine pure_ (i:=4) (N:=some 24) (v:=?_) (a':=?_) #[false,false,false,false,true,false,false,false,false,false,false,false,false] rfl rfl (any_of HT_.out (by kernel_rfl)) (fun _ _ _ h=>h) (Or.inl ⟨by rfl,?_⟩) ?_ ?_
   rotate_left
   ·intro w'
    go_simp
    with_reducible rfl
   rotate_left
   ·simp only [Act.put,s1_,s2_,s3_,i64_w,i32_w]
    rfl
   refine pure_ (i:=5) (N:=some 25) (v:=?_) (a':=?_) #[false,false,false,false,true,true,false,false,false,false,false,false,false] rfl rfl (any_of HT_.out (by kernel_rfl)) (fun _ _ _ h=>h) (Or.inl ⟨by rfl,?_⟩) ?_ ?_
   rotate_left
   ·intro w'
    go_simp
    with_reducible rfl
   rotate_left
   ·simp only [Act.put,s1_,s2_,s3_,i64_w,i32_w]
    rfl
   refine take_ (i:=0) (N:=some 20) (v:=?_) (a':=?_) #[true,false,false,false,true,true,false,false,false,false,false,false,false] rfl rfl (take_ofW HT_.out HW_.out (by kernel_rfl)) (fun _ _ _ h=>h) (Or.inl ⟨by rfl,?_⟩) hHeld ?_ ?_
   rotate_left
   ·rintro w' ⟨s0,s1,s2,s3⟩
    go_simp
    with_reducible rfl
   rotate_left
   ·simp only [Act.put,s1_,s2_,s3_,i64_w,i32_w]
    rfl
   refine take_ (i:=2) (N:=some 22) (v:=?_) (a':=?_) #[true,false,true,false,true,true,false,false,false,false,false,false,false] rfl rfl (take_ofW HT_.out HW_.out (by kernel_rfl)) (fun _ _ _ h=>h) (Or.inl ⟨by rfl,?_⟩) hHeld ?_ ?_
   rotate_left
   ·rintro w' ⟨s0,s1,s2,s3⟩
    go_simp
    with_reducible rfl
   rotate_left
   ·simp only [Act.put,s1_,s2_,s3_,i64_w,i32_w]
    rfl
   refine join_ (σ:=Nat) 2 #[true,true,true,true,true,true,true,true,true,true,true,false,false] (fun s_=>[(21,.agg #[.int .i64 t342,.int .i64 t343]),(23,.agg #[.int .i64 t344,.int .i64 t345]),(26,.tuple #[.agg #[.int .i64 t346,.int .i64 t347,.int .i64 t348,.int .i64 t349,.string t350,.string t351,.int .i64 t352,.int .i64 t353,.string t354,.string t355],.bool t356]),(9,.pointer (some ⟨s_,0,none⟩)),(19,.tuple #[.agg #[.int .i64 t346,.int .i64 t347,.int .i64 t348,.int .i64 t349,.string t350,.string t351,.int .i64 t352,.int .i64 t353,.string t354,.string t355],.bool t356]),(27,.agg #[.int .i64 t346,.int .i64 t347,.int .i64 t348,.int .i64 t349,.string t350,.string t351,.int .i64 t352,.int .i64 t353,.string t354,.string t355]),(28,.bool t356)]) (fun s_ w'=>(w'.cell? ⟨gb340,0,none⟩ = some (.int .i64 a0_0) ∧ w'.cell? ⟨gb340,1,none⟩ = some (.int .i64 a0_1) ∧ w'.cell? ⟨gb341,0,none⟩ = some (.int .i64 a1_0) ∧ w'.cell? ⟨gb341,1,none⟩ = some (.int .i64 a1_1)) ∧ (w'.heap[gb340]? = some (.cells #[.int .i64 a0_0,.int .i64 a0_1] 40 (0,0))) ∧ (w'.heap[gb341]? = some (.cells #[.int .i64 a1_0,.int .i64 a1_1] 40 (0,0))) ∧ (w'.heap[s_]? = some (.cells #[.int .i64 0,.int .i64 0,.int .i64 0,.int .i64 0,.string (⟨#[]⟩ : ByteArray),.string (⟨#[]⟩ : ByteArray),.int .i64 0,.int .i64 0,.string (⟨#[]⟩ : ByteArray),.string (⟨#[]⟩ : ByteArray)] 42 (0,0))) ∧ (w.heap.size ≤ s_) ∧ (w.heap.size ≤ s_) ∧ (gb340 ≠ s_) ∧ (s_ ≠ gb340) ∧ (gb341 ≠ s_) ∧ (s_ ≠ gb341) ∧ (Below w.heap.size w w')) ?_ ?_
   rotate_left
   ·intro hCont
    refine two_ (i:=1) (j:=10) (Ni:=some 21) (Nj:=some 9) #[true,true,true,false,true,true,false,false,false,false,false,false,false] #[true,false,true,false,true,true,false,false,false,false,true,false,false] rfl rfl rfl rfl (two_of HT_.out (by kernel_rfl)) (by decide) (by decide) (fun K hK=>?_) (fun K hK=>?_)
    ·skip
     refine goes_ Tryd.func29 (by kernel_rfl) rfl #[.agg #[.int .i64 a0_0,.int .i64 a0_1]] (by rfl) rfl rfl (by (try simp only [List.map_toArray,List.map_cons,List.map_nil]);first|done|rfl|(simp only [List.length_drop,List.length_take];rfl)) ?_
     with_reducible refine (laws_toEnd.calls a0_0 a0_1 t342 t343 _ A11.out).mono ?_
     rintro e w23 ⟨rfl,hb⟩
     refine ⟨_,rfl,?_⟩
     have n0_:=m_ (blk_below (g:=gb340) (o:=.cells #[.int .i64 a0_0,.int .i64 a0_1] 40 (0,0)) (by (with_reducible repeat first|apply b1_|apply b2_|apply b3_);exact BK340.out) hb)
     have n1_:=m_ (blk_below (g:=gb341) (o:=.cells #[.int .i64 a1_0,.int .i64 a1_1] 40 (0,0)) (by (with_reducible repeat first|apply b1_|apply b2_|apply b3_);exact BK341.out) hb)
     have n2_:=m_ (l5_ (by repeat (first|(with_reducible first|exact HB.out|apply l1_|apply l2_|apply l3_|refine l4_ ?_ GE340.out|refine l4_ ?_ GE341.out)|exact HB.out)) hb)
     clear BK340
     clear BK341
     clear HB
     have BK340:=n0_
     have BK341:=n1_
     have HB:=n2_
     clear n0_ n1_ n2_
     (try clear hb)
     (try clear hb2)
     (try clear hk)
     (try clear hi)
     refine hK.out _ _ ⟨(c_ BK340.out 0).trans rfl,(c_ BK340.out 1).trans rfl,(c_ BK341.out 0).trans rfl,(c_ BK341.out 1).trans rfl⟩ (fun hHeld=>?_)
     clear hK K
     refine norm_ (a':=?_) ?_ ?_
     rotate_left
     ·show Act.put _ (some 21) _ = _
      simp only [Act.put,s1_,s2_,s3_,i64_w,i32_w]
      rfl
     refine two_ (i:=3) (j:=10) (Ni:=some 23) (Nj:=some 9) #[true,true,true,true,true,true,false,false,false,false,false,false,false] #[true,true,true,false,true,true,false,false,false,false,true,false,false] rfl rfl rfl rfl (two_of HT_.out (by kernel_rfl)) (by decide) (by decide) (fun K hK=>?_) (fun K hK=>?_)
     ·skip
      refine goes_ Tryd.func29 (by kernel_rfl) rfl #[.agg #[.int .i64 a1_0,.int .i64 a1_1]] (by rfl) rfl rfl (by (try simp only [List.map_toArray,List.map_cons,List.map_nil]);first|done|rfl|(simp only [List.length_drop,List.length_take];rfl)) ?_
      with_reducible refine (laws_toEnd.calls a1_0 a1_1 t344 t345 _ A12.out).mono ?_
      rintro e w24 ⟨rfl,hb⟩
      refine ⟨_,rfl,?_⟩
      have n0_:=m_ (blk_below (g:=gb340) (o:=.cells #[.int .i64 a0_0,.int .i64 a0_1] 40 (0,0)) (by (with_reducible repeat first|apply b1_|apply b2_|apply b3_);exact BK340.out) hb)
      have n1_:=m_ (blk_below (g:=gb341) (o:=.cells #[.int .i64 a1_0,.int .i64 a1_1] 40 (0,0)) (by (with_reducible repeat first|apply b1_|apply b2_|apply b3_);exact BK341.out) hb)
      have n2_:=m_ (l5_ (by repeat (first|(with_reducible first|exact HB.out|apply l1_|apply l2_|apply l3_|refine l4_ ?_ GE340.out|refine l4_ ?_ GE341.out)|exact HB.out)) hb)
      clear BK340
      clear BK341
      clear HB
      have BK340:=n0_
      have BK341:=n1_
      have HB:=n2_
      clear n0_ n1_ n2_
      (try clear hb)
      (try clear hb2)
      (try clear hk)
      (try clear hi)
      refine hK.out _ _ ⟨(c_ BK340.out 0).trans rfl,(c_ BK340.out 1).trans rfl,(c_ BK341.out 0).trans rfl,(c_ BK341.out 1).trans rfl⟩ (fun hHeld=>?_)
      clear hK K
      refine norm_ (a':=?_) ?_ ?_
      rotate_left
      ·show Act.put _ (some 23) _ = _
       simp only [Act.put,s1_,s2_,s3_,i64_w,i32_w]
       rfl
      refine two_ (i:=6) (j:=10) (Ni:=some 26) (Nj:=some 9) #[true,true,true,true,true,true,true,false,false,false,false,false,false] #[true,true,true,true,true,true,false,false,false,false,true,false,false] rfl rfl rfl rfl (two_of HT_.out (by kernel_rfl)) (by decide) (by decide) (fun K hK=>?_) (fun K hK=>?_)
      ·skip
       refine goes_ Tryd.func28 (by kernel_rfl) rfl #[.agg #[.int .i64 t342,.int .i64 t343],.agg #[.int .i64 t344,.int .i64 t345],.string a2,.string a3] (by rfl) rfl rfl (by (try simp only [List.map_toArray,List.map_cons,List.map_nil]);first|done|rfl|(simp only [List.length_drop,List.length_take];rfl)) ?_
       with_reducible refine (spec_ConvNew.calls k t342 t343 t344 t345 a2 a3 t346 t347 t348 t349 t350 t351 t352 t353 t354 t355 t356 _ A13.out).mono ?_
       rintro e w25 ⟨rfl,hb⟩
       refine ⟨_,rfl,?_⟩
       have n0_:=m_ (blk_below (g:=gb340) (o:=.cells #[.int .i64 a0_0,.int .i64 a0_1] 40 (0,0)) (by (with_reducible repeat first|apply b1_|apply b2_|apply b3_);exact BK340.out) hb)
       have n1_:=m_ (blk_below (g:=gb341) (o:=.cells #[.int .i64 a1_0,.int .i64 a1_1] 40 (0,0)) (by (with_reducible repeat first|apply b1_|apply b2_|apply b3_);exact BK341.out) hb)
       have n2_:=m_ (l5_ (by repeat (first|(with_reducible first|exact HB.out|apply l1_|apply l2_|apply l3_|refine l4_ ?_ GE340.out|refine l4_ ?_ GE341.out)|exact HB.out)) hb)
       clear BK340
       clear BK341
       clear HB
       have BK340:=n0_
       have BK341:=n1_
       have HB:=n2_
       clear n0_ n1_ n2_
       (try clear hb)
       (try clear hb2)
       (try clear hk)
       (try clear hi)
       refine hK.out _ _ ⟨(c_ BK340.out 0).trans rfl,(c_ BK340.out 1).trans rfl,(c_ BK341.out 0).trans rfl,(c_ BK341.out 1).trans rfl⟩ (fun hHeld=>?_)
       clear hK K
       refine norm_ (a':=?_) ?_ ?_
       rotate_left
       ·show Act.put _ (some 26) _ = _
        simp only [Act.put,s1_,s2_,s3_,i64_w,i32_w]
        rfl
       refine pure_ (i:=7) (N:=some 19) (v:=?_) (a':=?_) #[true,true,true,true,true,true,true,true,false,false,false,false,false] rfl rfl (any_of HT_.out (by kernel_rfl)) (fun _ _ _ h=>h) (Or.inl ⟨by rfl,?_⟩) ?_ ?_
       rotate_left
       ·intro w'
        go_simp
        with_reducible rfl
       rotate_left
       ·simp only [Act.put,s1_,s2_,s3_,i64_w,i32_w]
        rfl
       refine pure_ (i:=8) (N:=some 27) (v:=?_) (a':=?_) #[true,true,true,true,true,true,true,true,true,false,false,false,false] rfl rfl (any_of HT_.out (by kernel_rfl)) (fun _ _ _ h=>h) (Or.inl ⟨by rfl,?_⟩) ?_ ?_
       rotate_left
       ·intro w'
        go_simp
        with_reducible rfl
       rotate_left
       ·simp only [Act.put,s1_,s2_,s3_,i64_w,i32_w]
        rfl
       refine pure_ (i:=9) (N:=some 28) (v:=?_) (a':=?_) #[true,true,true,true,true,true,true,true,true,true,false,false,false] rfl rfl (any_of HT_.out (by kernel_rfl)) (fun _ _ _ h=>h) (Or.inl ⟨by rfl,?_⟩) ?_ ?_
       rotate_left
       ·intro w'
        go_simp
        with_reducible rfl
       rotate_left
       ·simp only [Act.put,s1_,s2_,s3_,i64_w,i32_w]
        rfl
       refine one_ (i:=10) (N:=some 9) #[true,true,true,true,true,true,true,true,true,true,true,false,false] rfl rfl (one_of HT_.out (by kernel_rfl)) (by decide) (fun K hK=>?_)
       refine box_step ?hg (N:=9) ?hd (cs:=#[.int .i64 0,.int .i64 0,.int .i64 0,.int .i64 0,.string (⟨#[]⟩ : ByteArray),.string (⟨#[]⟩ : ByteArray),.int .i64 0,.int .i64 0,.string (⟨#[]⟩ : ByteArray),.string (⟨#[]⟩ : ByteArray)]) (t:=42) ?hr ?_;(case hd=>rfl);(case hg=>rfl);(case hr=>first|(go_simp;done)|(go_simp;rfl))
       intro gb357 hg w26 hbox hb
       have n0_:=m_ (blk_below (g:=gb340) (o:=.cells #[.int .i64 a0_0,.int .i64 a0_1] 40 (0,0)) (by (with_reducible repeat first|apply b1_|apply b2_|apply b3_);exact BK340.out) hb)
       have n1_:=m_ (blk_below (g:=gb341) (o:=.cells #[.int .i64 a1_0,.int .i64 a1_1] 40 (0,0)) (by (with_reducible repeat first|apply b1_|apply b2_|apply b3_);exact BK341.out) hb)
       have n2_:=m_ (l5_ (by repeat (first|(with_reducible first|exact HB.out|apply l1_|apply l2_|apply l3_|refine l4_ ?_ GE340.out|refine l4_ ?_ GE341.out)|exact HB.out)) hb)
       have n3_:=m_ (hbox)
       have n4_:=m_ ((by rw [hg];exact (l6_ (by repeat (first|(with_reducible first|exact HB.out|apply l1_|apply l2_|apply l3_|refine l4_ ?_ GE340.out|refine l4_ ?_ GE341.out)|exact HB.out))) : w.heap.size ≤ gb357))
       have n5_:=m_ ((by rw [hg];exact (l6_ (by repeat (first|(with_reducible first|exact HB.out|apply l1_|apply l2_|apply l3_|refine l4_ ?_ GE340.out|refine l4_ ?_ GE341.out)|exact HB.out))) : w.heap.size ≤ gb357))
       have n6_:=m_ ((by rw [hg];exact Nat.ne_of_lt (blk_lt (g:=gb340) (o:=.cells #[.int .i64 a0_0,.int .i64 a0_1] 40 (0,0)) (by (with_reducible repeat first|apply b1_|apply b2_|apply b3_);exact BK340.out)) : gb340 ≠ gb357))
       have n7_:=m_ ((by rw [hg];exact Nat.ne_of_gt (blk_lt (g:=gb340) (o:=.cells #[.int .i64 a0_0,.int .i64 a0_1] 40 (0,0)) (by (with_reducible repeat first|apply b1_|apply b2_|apply b3_);exact BK340.out)) : gb357 ≠ gb340))
       have n8_:=m_ ((by rw [hg];exact Nat.ne_of_lt (blk_lt (g:=gb341) (o:=.cells #[.int .i64 a1_0,.int .i64 a1_1] 40 (0,0)) (by (with_reducible repeat first|apply b1_|apply b2_|apply b3_);exact BK341.out)) : gb341 ≠ gb357))
       have n9_:=m_ ((by rw [hg];exact Nat.ne_of_gt (blk_lt (g:=gb341) (o:=.cells #[.int .i64 a1_0,.int .i64 a1_1] 40 (0,0)) (by (with_reducible repeat first|apply b1_|apply b2_|apply b3_);exact BK341.out)) : gb357 ≠ gb341))
       clear BK340
       clear BK341
       clear HB
       have BK340:=n0_
       have BK341:=n1_
       have HB:=n2_
       have BK357:=n3_
       have GW357:=n4_
       have GE357:=n5_
       have NB340_357:=n6_
       have NB357_340:=n7_
       have NB341_357:=n8_
       have NB357_341:=n9_
       clear n0_ n1_ n2_ n3_ n4_ n5_ n6_ n7_ n8_ n9_
       clear hb hbox hg
       refine hK.out _ _ ⟨(c_ BK340.out 0).trans rfl,(c_ BK340.out 1).trans rfl,(c_ BK341.out 0).trans rfl,(c_ BK341.out 1).trans rfl⟩ (fun hHeld=>?_)
       clear hK K
       refine norm_ (a':=?_) ?_ ?_
       rotate_left
       ·show Act.put _ (some 9) _ = _
        simp only [Act.put,s1_,s2_,s3_,i64_w,i32_w]
        rfl
       exact norm_ (by simp only [putAll,Act.put,s1_,s2_,s3_]) (hCont (gb357) _ ⟨hHeld,(by (with_reducible repeat first|apply b1_|apply b2_|apply b3_);exact BK340.out),(by (with_reducible repeat first|apply b1_|apply b2_|apply b3_);exact BK341.out),(by (with_reducible repeat first|apply b1_|apply b2_|apply b3_);exact BK357.out),GW357.out,GE357.out,NB340_357.out,NB357_340.out,NB341_357.out,NB357_341.out,(by repeat (first|(with_reducible first|exact HB.out|apply l1_|apply l2_|apply l3_|refine l4_ ?_ GE340.out|refine l4_ ?_ GE341.out|refine l4_ ?_ GE357.out)|exact HB.out))⟩)
      ·skip
       refine box_step ?hg (N:=9) ?hd (cs:=#[.int .i64 0,.int .i64 0,.int .i64 0,.int .i64 0,.string (⟨#[]⟩ : ByteArray),.string (⟨#[]⟩ : ByteArray),.int .i64 0,.int .i64 0,.string (⟨#[]⟩ : ByteArray),.string (⟨#[]⟩ : ByteArray)]) (t:=42) ?hr ?_;(case hd=>rfl);(case hg=>rfl);(case hr=>first|(go_simp;done)|(go_simp;rfl))
       intro gb357 hg w25 hbox hb
       have n0_:=m_ (blk_below (g:=gb340) (o:=.cells #[.int .i64 a0_0,.int .i64 a0_1] 40 (0,0)) (by (with_reducible repeat first|apply b1_|apply b2_|apply b3_);exact BK340.out) hb)
       have n1_:=m_ (blk_below (g:=gb341) (o:=.cells #[.int .i64 a1_0,.int .i64 a1_1] 40 (0,0)) (by (with_reducible repeat first|apply b1_|apply b2_|apply b3_);exact BK341.out) hb)
       have n2_:=m_ (l5_ (by repeat (first|(with_reducible first|exact HB.out|apply l1_|apply l2_|apply l3_|refine l4_ ?_ GE340.out|refine l4_ ?_ GE341.out)|exact HB.out)) hb)
       have n3_:=m_ (hbox)
       have n4_:=m_ ((by rw [hg];exact (l6_ (by repeat (first|(with_reducible first|exact HB.out|apply l1_|apply l2_|apply l3_|refine l4_ ?_ GE340.out|refine l4_ ?_ GE341.out)|exact HB.out))) : w.heap.size ≤ gb357))
       have n5_:=m_ ((by rw [hg];exact (l6_ (by repeat (first|(with_reducible first|exact HB.out|apply l1_|apply l2_|apply l3_|refine l4_ ?_ GE340.out|refine l4_ ?_ GE341.out)|exact HB.out))) : w.heap.size ≤ gb357))
       have n6_:=m_ ((by rw [hg];exact Nat.ne_of_lt (blk_lt (g:=gb340) (o:=.cells #[.int .i64 a0_0,.int .i64 a0_1] 40 (0,0)) (by (with_reducible repeat first|apply b1_|apply b2_|apply b3_);exact BK340.out)) : gb340 ≠ gb357))
       have n7_:=m_ ((by rw [hg];exact Nat.ne_of_gt (blk_lt (g:=gb340) (o:=.cells #[.int .i64 a0_0,.int .i64 a0_1] 40 (0,0)) (by (with_reducible repeat first|apply b1_|apply b2_|apply b3_);exact BK340.out)) : gb357 ≠ gb340))
       have n8_:=m_ ((by rw [hg];exact Nat.ne_of_lt (blk_lt (g:=gb341) (o:=.cells #[.int .i64 a1_0,.int .i64 a1_1] 40 (0,0)) (by (with_reducible repeat first|apply b1_|apply b2_|apply b3_);exact BK341.out)) : gb341 ≠ gb357))
       have n9_:=m_ ((by rw [hg];exact Nat.ne_of_gt (blk_lt (g:=gb341) (o:=.cells #[.int .i64 a1_0,.int .i64 a1_1] 40 (0,0)) (by (with_reducible repeat first|apply b1_|apply b2_|apply b3_);exact BK341.out)) : gb357 ≠ gb341))
       clear BK340
       clear BK341
       clear HB
       have BK340:=n0_
       have BK341:=n1_
       have HB:=n2_
       have BK357:=n3_
       have GW357:=n4_
       have GE357:=n5_
       have NB340_357:=n6_
       have NB357_340:=n7_
       have NB341_357:=n8_
       have NB357_341:=n9_
       clear n0_ n1_ n2_ n3_ n4_ n5_ n6_ n7_ n8_ n9_
       clear hb hbox hg
       refine hK.out _ _ ⟨(c_ BK340.out 0).trans rfl,(c_ BK340.out 1).trans rfl,(c_ BK341.out 0).trans rfl,(c_ BK341.out 1).trans rfl⟩ (fun hHeld=>?_)
       clear hK K
       refine norm_ (a':=?_) ?_ ?_
       rotate_left
       ·show Act.put _ (some 9) _ = _
        simp only [Act.put,s1_,s2_,s3_,i64_w,i32_w]
        rfl
       refine one_ (i:=6) (N:=some 26) #[true,true,true,true,true,true,true,false,false,false,true,false,false] rfl rfl (one_of HT_.out (by kernel_rfl)) (by decide) (fun K hK=>?_)
       refine goes_ Tryd.func28 (by kernel_rfl) rfl #[.agg #[.int .i64 t342,.int .i64 t343],.agg #[.int .i64 t344,.int .i64 t345],.string a2,.string a3] (by rfl) rfl rfl (by (try simp only [List.map_toArray,List.map_cons,List.map_nil]);first|done|rfl|(simp only [List.length_drop,List.length_take];rfl)) ?_
       with_reducible refine (spec_ConvNew.calls k t342 t343 t344 t345 a2 a3 t346 t347 t348 t349 t350 t351 t352 t353 t354 t355 t356 _ A13.out).mono ?_
       rintro e w26 ⟨rfl,hb⟩
       refine ⟨_,rfl,?_⟩
       have n0_:=m_ (blk_below (g:=gb340) (o:=.cells #[.int .i64 a0_0,.int .i64 a0_1] 40 (0,0)) (by (with_reducible repeat first|apply b1_|apply b2_|apply b3_);exact BK340.out) hb)
       have n1_:=m_ (blk_below (g:=gb341) (o:=.cells #[.int .i64 a1_0,.int .i64 a1_1] 40 (0,0)) (by (with_reducible repeat first|apply b1_|apply b2_|apply b3_);exact BK341.out) hb)
       have n2_:=m_ (blk_below (g:=gb357) (o:=.cells #[.int .i64 0,.int .i64 0,.int .i64 0,.int .i64 0,.string (⟨#[]⟩ : ByteArray),.string (⟨#[]⟩ : ByteArray),.int .i64 0,.int .i64 0,.string (⟨#[]⟩ : ByteArray),.string (⟨#[]⟩ : ByteArray)] 42 (0,0)) (by (with_reducible repeat first|apply b1_|apply b2_|apply b3_);exact BK357.out) hb)
       have n3_:=m_ (l5_ (by repeat (first|(with_reducible first|exact HB.out|apply l1_|apply l2_|apply l3_|refine l4_ ?_ GE340.out|refine l4_ ?_ GE341.out|refine l4_ ?_ GE357.out)|exact HB.out)) hb)
       clear BK340
       clear BK341
       clear BK357
       clear HB
       have BK340:=n0_
       have BK341:=n1_
       have BK357:=n2_
       have HB:=n3_
       clear n0_ n1_ n2_ n3_
       (try clear hb)
       (try clear hb2)
       (try clear hk)
       (try clear hi)
       refine hK.out _ _ ⟨(c_ BK340.out 0).trans rfl,(c_ BK340.out 1).trans rfl,(c_ BK341.out 0).trans rfl,(c_ BK341.out 1).trans rfl⟩ (fun hHeld=>?_)
       clear hK K
       refine norm_ (a':=?_) ?_ ?_
       rotate_left
       ·show Act.put _ (some 26) _ = _
        simp only [Act.put,s1_,s2_,s3_,i64_w,i32_w]
        rfl
       refine pure_ (i:=7) (N:=some 19) (v:=?_) (a':=?_) #[true,true,true,true,true,true,true,true,false,false,true,false,false] rfl rfl (any_of HT_.out (by kernel_rfl)) (fun _ _ _ h=>h) (Or.inl ⟨by rfl,?_⟩) ?_ ?_
       rotate_left
       ·intro w'
        go_simp
        with_reducible rfl
       rotate_left
       ·simp only [Act.put,s1_,s2_,s3_,i64_w,i32_w]
        rfl
       refine pure_ (i:=8) (N:=some 27) (v:=?_) (a':=?_) #[true,true,true,true,true,true,true,true,true,false,true,false,false] rfl rfl (any_of HT_.out (by kernel_rfl)) (fun _ _ _ h=>h) (Or.inl ⟨by rfl,?_⟩) ?_ ?_
       rotate_left
       ·intro w'
        go_simp
        with_reducible rfl
       rotate_left
       ·simp only [Act.put,s1_,s2_,s3_,i64_w,i32_w]
        rfl
       refine pure_ (i:=9) (N:=some 28) (v:=?_) (a':=?_) #[true,true,true,true,true,true,true,true,true,true,true,false,false] rfl rfl (any_of HT_.out (by kernel_rfl)) (fun _ _ _ h=>h) (Or.inl ⟨by rfl,?_⟩) ?_ ?_
       rotate_left
       ·intro w'
        go_simp
        with_reducible rfl
       rotate_left
       ·simp only [Act.put,s1_,s2_,s3_,i64_w,i32_w]
        rfl
       exact norm_ (by simp only [putAll,Act.put,s1_,s2_,s3_]) (hCont (gb357) _ ⟨hHeld,(by (with_reducible repeat first|apply b1_|apply b2_|apply b3_);exact BK340.out),(by (with_reducible repeat first|apply b1_|apply b2_|apply b3_);exact BK341.out),(by (with_reducible repeat first|apply b1_|apply b2_|apply b3_);exact BK357.out),GW357.out,GE357.out,NB340_357.out,NB357_340.out,NB341_357.out,NB357_341.out,(by repeat (first|(with_reducible first|exact HB.out|apply l1_|apply l2_|apply l3_|refine l4_ ?_ GE340.out|refine l4_ ?_ GE341.out|refine l4_ ?_ GE357.out)|exact HB.out))⟩)
     ·skip
      refine box_step ?hg (N:=9) ?hd (cs:=#[.int .i64 0,.int .i64 0,.int .i64 0,.int .i64 0,.string (⟨#[]⟩ : ByteArray),.string (⟨#[]⟩ : ByteArray),.int .i64 0,.int .i64 0,.string (⟨#[]⟩ : ByteArray),.string (⟨#[]⟩ : ByteArray)]) (t:=42) ?hr ?_;(case hd=>rfl);(case hg=>rfl);(case hr=>first|(go_simp;done)|(go_simp;rfl))
      intro gb357 hg w24 hbox hb
      have n0_:=m_ (blk_below (g:=gb340) (o:=.cells #[.int .i64 a0_0,.int .i64 a0_1] 40 (0,0)) (by (with_reducible repeat first|apply b1_|apply b2_|apply b3_);exact BK340.out) hb)
      have n1_:=m_ (blk_below (g:=gb341) (o:=.cells #[.int .i64 a1_0,.int .i64 a1_1] 40 (0,0)) (by (with_reducible repeat first|apply b1_|apply b2_|apply b3_);exact BK341.out) hb)
      have n2_:=m_ (l5_ (by repeat (first|(with_reducible first|exact HB.out|apply l1_|apply l2_|apply l3_|refine l4_ ?_ GE340.out|refine l4_ ?_ GE341.out)|exact HB.out)) hb)
      have n3_:=m_ (hbox)
      have n4_:=m_ ((by rw [hg];exact (l6_ (by repeat (first|(with_reducible first|exact HB.out|apply l1_|apply l2_|apply l3_|refine l4_ ?_ GE340.out|refine l4_ ?_ GE341.out)|exact HB.out))) : w.heap.size ≤ gb357))
      have n5_:=m_ ((by rw [hg];exact (l6_ (by repeat (first|(with_reducible first|exact HB.out|apply l1_|apply l2_|apply l3_|refine l4_ ?_ GE340.out|refine l4_ ?_ GE341.out)|exact HB.out))) : w.heap.size ≤ gb357))
      have n6_:=m_ ((by rw [hg];exact Nat.ne_of_lt (blk_lt (g:=gb340) (o:=.cells #[.int .i64 a0_0,.int .i64 a0_1] 40 (0,0)) (by (with_reducible repeat first|apply b1_|apply b2_|apply b3_);exact BK340.out)) : gb340 ≠ gb357))
      have n7_:=m_ ((by rw [hg];exact Nat.ne_of_gt (blk_lt (g:=gb340) (o:=.cells #[.int .i64 a0_0,.int .i64 a0_1] 40 (0,0)) (by (with_reducible repeat first|apply b1_|apply b2_|apply b3_);exact BK340.out)) : gb357 ≠ gb340))
      have n8_:=m_ ((by rw [hg];exact Nat.ne_of_lt (blk_lt (g:=gb341) (o:=.cells #[.int .i64 a1_0,.int .i64 a1_1] 40 (0,0)) (by (with_reducible repeat first|apply b1_|apply b2_|apply b3_);exact BK341.out)) : gb341 ≠ gb357))
      have n9_:=m_ ((by rw [hg];exact Nat.ne_of_gt (blk_lt (g:=gb341) (o:=.cells #[.int .i64 a1_0,.int .i64 a1_1] 40 (0,0)) (by (with_reducible repeat first|apply b1_|apply b2_|apply b3_);exact BK341.out)) : gb357 ≠ gb341))
      clear BK340
      clear BK341
      clear HB
      have BK340:=n0_
      have BK341:=n1_
      have HB:=n2_
      have BK357:=n3_
      have GW357:=n4_
      have GE357:=n5_
      have NB340_357:=n6_
      have NB357_340:=n7_
      have NB341_357:=n8_
      have NB357_341:=n9_
      clear n0_ n1_ n2_ n3_ n4_ n5_ n6_ n7_ n8_ n9_
      clear hb hbox hg
      refine hK.out _ _ ⟨(c_ BK340.out 0).trans rfl,(c_ BK340.out 1).trans rfl,(c_ BK341.out 0).trans rfl,(c_ BK341.out 1).trans rfl⟩ (fun hHeld=>?_)
      clear hK K
      refine norm_ (a':=?_) ?_ ?_
      rotate_left
      ·show Act.put _ (some 9) _ = _
       simp only [Act.put,s1_,s2_,s3_,i64_w,i32_w]
       rfl
      refine one_ (i:=3) (N:=some 23) #[true,true,true,true,true,true,false,false,false,false,true,false,false] rfl rfl (one_of HT_.out (by kernel_rfl)) (by decide) (fun K hK=>?_)
      refine goes_ Tryd.func29 (by kernel_rfl) rfl #[.agg #[.int .i64 a1_0,.int .i64 a1_1]] (by rfl) rfl rfl (by (try simp only [List.map_toArray,List.map_cons,List.map_nil]);first|done|rfl|(simp only [List.length_drop,List.length_take];rfl)) ?_
      with_reducible refine (laws_toEnd.calls a1_0 a1_1 t344 t345 _ A12.out).mono ?_
      rintro e w25 ⟨rfl,hb⟩
      refine ⟨_,rfl,?_⟩
      have n0_:=m_ (blk_below (g:=gb340) (o:=.cells #[.int .i64 a0_0,.int .i64 a0_1] 40 (0,0)) (by (with_reducible repeat first|apply b1_|apply b2_|apply b3_);exact BK340.out) hb)
      have n1_:=m_ (blk_below (g:=gb341) (o:=.cells #[.int .i64 a1_0,.int .i64 a1_1] 40 (0,0)) (by (with_reducible repeat first|apply b1_|apply b2_|apply b3_);exact BK341.out) hb)
      have n2_:=m_ (blk_below (g:=gb357) (o:=.cells #[.int .i64 0,.int .i64 0,.int .i64 0,.int .i64 0,.string (⟨#[]⟩ : ByteArray),.string (⟨#[]⟩ : ByteArray),.int .i64 0,.int .i64 0,.string (⟨#[]⟩ : ByteArray),.string (⟨#[]⟩ : ByteArray)] 42 (0,0)) (by (with_reducible repeat first|apply b1_|apply b2_|apply b3_);exact BK357.out) hb)
      have n3_:=m_ (l5_ (by repeat (first|(with_reducible first|exact HB.out|apply l1_|apply l2_|apply l3_|refine l4_ ?_ GE340.out|refine l4_ ?_ GE341.out|refine l4_ ?_ GE357.out)|exact HB.out)) hb)
      clear BK340
      clear BK341
      clear BK357
      clear HB
      have BK340:=n0_
      have BK341:=n1_
      have BK357:=n2_
      have HB:=n3_
      clear n0_ n1_ n2_ n3_
      (try clear hb)
      (try clear hb2)
      (try clear hk)
      (try clear hi)
      refine hK.out _ _ ⟨(c_ BK340.out 0).trans rfl,(c_ BK340.out 1).trans rfl,(c_ BK341.out 0).trans rfl,(c_ BK341.out 1).trans rfl⟩ (fun hHeld=>?_)
      clear hK K
      refine norm_ (a':=?_) ?_ ?_
      rotate_left
      ·show Act.put _ (some 23) _ = _
       simp only [Act.put,s1_,s2_,s3_,i64_w,i32_w]
       rfl
      refine one_ (i:=6) (N:=some 26) #[true,true,true,true,true,true,true,false,false,false,true,false,false] rfl rfl (one_of HT_.out (by kernel_rfl)) (by decide) (fun K hK=>?_)
      refine goes_ Tryd.func28 (by kernel_rfl) rfl #[.agg #[.int .i64 t342,.int .i64 t343],.agg #[.int .i64 t344,.int .i64 t345],.string a2,.string a3] (by rfl) rfl rfl (by (try simp only [List.map_toArray,List.map_cons,List.map_nil]);first|done|rfl|(simp only [List.length_drop,List.length_take];rfl)) ?_
      with_reducible refine (spec_ConvNew.calls k t342 t343 t344 t345 a2 a3 t346 t347 t348 t349 t350 t351 t352 t353 t354 t355 t356 _ A13.out).mono ?_
      rintro e w26 ⟨rfl,hb⟩
      refine ⟨_,rfl,?_⟩
      have n0_:=m_ (blk_below (g:=gb340) (o:=.cells #[.int .i64 a0_0,.int .i64 a0_1] 40 (0,0)) (by (with_reducible repeat first|apply b1_|apply b2_|apply b3_);exact BK340.out) hb)
      have n1_:=m_ (blk_below (g:=gb341) (o:=.cells #[.int .i64 a1_0,.int .i64 a1_1] 40 (0,0)) (by (with_reducible repeat first|apply b1_|apply b2_|apply b3_);exact BK341.out) hb)
      have n2_:=m_ (blk_below (g:=gb357) (o:=.cells #[.int .i64 0,.int .i64 0,.int .i64 0,.int .i64 0,.string (⟨#[]⟩ : ByteArray),.string (⟨#[]⟩ : ByteArray),.int .i64 0,.int .i64 0,.string (⟨#[]⟩ : ByteArray),.string (⟨#[]⟩ : ByteArray)] 42 (0,0)) (by (with_reducible repeat first|apply b1_|apply b2_|apply b3_);exact BK357.out) hb)
      have n3_:=m_ (l5_ (by repeat (first|(with_reducible first|exact HB.out|apply l1_|apply l2_|apply l3_|refine l4_ ?_ GE340.out|refine l4_ ?_ GE341.out|refine l4_ ?_ GE357.out)|exact HB.out)) hb)
      clear BK340
      clear BK341
      clear BK357
      clear HB
      have BK340:=n0_
      have BK341:=n1_
      have BK357:=n2_
      have HB:=n3_
      clear n0_ n1_ n2_ n3_
      (try clear hb)
      (try clear hb2)
      (try clear hk)
      (try clear hi)
      refine hK.out _ _ ⟨(c_ BK340.out 0).trans rfl,(c_ BK340.out 1).trans rfl,(c_ BK341.out 0).trans rfl,(c_ BK341.out 1).trans rfl⟩ (fun hHeld=>?_)
      clear hK K
      refine norm_ (a':=?_) ?_ ?_
      rotate_left
      ·show Act.put _ (some 26) _ = _
       simp only [Act.put,s1_,s2_,s3_,i64_w,i32_w]
       rfl
      refine pure_ (i:=7) (N:=some 19) (v:=?_) (a':=?_) #[true,true,true,true,true,true,true,true,false,false,true,false,false] rfl rfl (any_of HT_.out (by kernel_rfl)) (fun _ _ _ h=>h) (Or.inl ⟨by rfl,?_⟩) ?_ ?_
      rotate_left
      ·intro w'
       go_simp
       with_reducible rfl
      rotate_left
      ·simp only [Act.put,s1_,s2_,s3_,i64_w,i32_w]
       rfl
      refine pure_ (i:=8) (N:=some 27) (v:=?_) (a':=?_) #[true,true,true,true,true,true,true,true,true,false,true,false,false] rfl rfl (any_of HT_.out (by kernel_rfl)) (fun _ _ _ h=>h) (Or.inl ⟨by rfl,?_⟩) ?_ ?_
      rotate_left
      ·intro w'
       go_simp
       with_reducible rfl
      rotate_left
      ·simp only [Act.put,s1_,s2_,s3_,i64_w,i32_w]
       rfl
      refine pure_ (i:=9) (N:=some 28) (v:=?_) (a':=?_) #[true,true,true,true,true,true,true,true,true,true,true,false,false] rfl rfl (any_of HT_.out (by kernel_rfl)) (fun _ _ _ h=>h) (Or.inl ⟨by rfl,?_⟩) ?_ ?_
      rotate_left
      ·intro w'
       go_simp
       with_reducible rfl
      rotate_left
      ·simp only [Act.put,s1_,s2_,s3_,i64_w,i32_w]
       rfl
      exact norm_ (by simp only [putAll,Act.put,s1_,s2_,s3_]) (hCont (gb357) _ ⟨hHeld,(by (with_reducible repeat first|apply b1_|apply b2_|apply b3_);exact BK340.out),(by (with_reducible repeat first|apply b1_|apply b2_|apply b3_);exact BK341.out),(by (with_reducible repeat first|apply b1_|apply b2_|apply b3_);exact BK357.out),GW357.out,GE357.out,NB340_357.out,NB357_340.out,NB341_357.out,NB357_341.out,(by repeat (first|(with_reducible first|exact HB.out|apply l1_|apply l2_|apply l3_|refine l4_ ?_ GE340.out|refine l4_ ?_ GE341.out|refine l4_ ?_ GE357.out)|exact HB.out))⟩)
    ·skip
     refine box_step ?hg (N:=9) ?hd (cs:=#[.int .i64 0,.int .i64 0,.int .i64 0,.int .i64 0,.string (⟨#[]⟩ : ByteArray),.string (⟨#[]⟩ : ByteArray),.int .i64 0,.int .i64 0,.string (⟨#[]⟩ : ByteArray),.string (⟨#[]⟩ : ByteArray)]) (t:=42) ?hr ?_;(case hd=>rfl);(case hg=>rfl);(case hr=>first|(go_simp;done)|(go_simp;rfl))
     intro gb357 hg w23 hbox hb
     have n0_:=m_ (blk_below (g:=gb340) (o:=.cells #[.int .i64 a0_0,.int .i64 a0_1] 40 (0,0)) (by (with_reducible repeat first|apply b1_|apply b2_|apply b3_);exact BK340.out) hb)
     have n1_:=m_ (blk_below (g:=gb341) (o:=.cells #[.int .i64 a1_0,.int .i64 a1_1] 40 (0,0)) (by (with_reducible repeat first|apply b1_|apply b2_|apply b3_);exact BK341.out) hb)
     have n2_:=m_ (l5_ (by repeat (first|(with_reducible first|exact HB.out|apply l1_|apply l2_|apply l3_|refine l4_ ?_ GE340.out|refine l4_ ?_ GE341.out)|exact HB.out)) hb)
     have n3_:=m_ (hbox)
     have n4_:=m_ ((by rw [hg];exact (l6_ (by repeat (first|(with_reducible first|exact HB.out|apply l1_|apply l2_|apply l3_|refine l4_ ?_ GE340.out|refine l4_ ?_ GE341.out)|exact HB.out))) : w.heap.size ≤ gb357))
     have n5_:=m_ ((by rw [hg];exact (l6_ (by repeat (first|(with_reducible first|exact HB.out|apply l1_|apply l2_|apply l3_|refine l4_ ?_ GE340.out|refine l4_ ?_ GE341.out)|exact HB.out))) : w.heap.size ≤ gb357))
     have n6_:=m_ ((by rw [hg];exact Nat.ne_of_lt (blk_lt (g:=gb340) (o:=.cells #[.int .i64 a0_0,.int .i64 a0_1] 40 (0,0)) (by (with_reducible repeat first|apply b1_|apply b2_|apply b3_);exact BK340.out)) : gb340 ≠ gb357))
     have n7_:=m_ ((by rw [hg];exact Nat.ne_of_gt (blk_lt (g:=gb340) (o:=.cells #[.int .i64 a0_0,.int .i64 a0_1] 40 (0,0)) (by (with_reducible repeat first|apply b1_|apply b2_|apply b3_);exact BK340.out)) : gb357 ≠ gb340))
     have n8_:=m_ ((by rw [hg];exact Nat.ne_of_lt (blk_lt (g:=gb341) (o:=.cells #[.int .i64 a1_0,.int .i64 a1_1] 40 (0,0)) (by (with_reducible repeat first|apply b1_|apply b2_|apply b3_);exact BK341.out)) : gb341 ≠ gb357))
     have n9_:=m_ ((by rw [hg];exact Nat.ne_of_gt (blk_lt (g:=gb341) (o:=.cells #[.int .i64 a1_0,.int .i64 a1_1] 40 (0,0)) (by (with_reducible repeat first|apply b1_|apply b2_|apply b3_);exact BK341.out)) : gb357 ≠ gb341))
     clear BK340
     clear BK341
     clear HB
     have BK340:=n0_
     have BK341:=n1_
     have HB:=n2_
     have BK357:=n3_
     have GW357:=n4_
     have GE357:=n5_
     have NB340_357:=n6_
     have NB357_340:=n7_
     have NB341_357:=n8_
     have NB357_341:=n9_
     clear n0_ n1_ n2_ n3_ n4_ n5_ n6_ n7_ n8_ n9_
     clear hb hbox hg
     refine hK.out _ _ ⟨(c_ BK340.out 0).trans rfl,(c_ BK340.out 1).trans rfl,(c_ BK341.out 0).trans rfl,(c_ BK341.out 1).trans rfl⟩ (fun hHeld=>?_)
     clear hK K
     refine norm_ (a':=?_) ?_ ?_
     rotate_left
     ·show Act.put _ (some 9) _ = _
      simp only [Act.put,s1_,s2_,s3_,i64_w,i32_w]
      rfl
     refine one_ (i:=1) (N:=some 21) #[true,true,true,false,true,true,false,false,false,false,true,false,false] rfl rfl (one_of HT_.out (by kernel_rfl)) (by decide) (fun K hK=>?_)
     refine goes_ Tryd.func29 (by kernel_rfl) rfl #[.agg #[.int .i64 a0_0,.int .i64 a0_1]] (by rfl) rfl rfl (by (try simp only [List.map_toArray,List.map_cons,List.map_nil]);first|done|rfl|(simp only [List.length_drop,List.length_take];rfl)) ?_
     with_reducible refine (laws_toEnd.calls a0_0 a0_1 t342 t343 _ A11.out).mono ?_
     rintro e w24 ⟨rfl,hb⟩
     refine ⟨_,rfl,?_⟩
     have n0_:=m_ (blk_below (g:=gb340) (o:=.cells #[.int .i64 a0_0,.int .i64 a0_1] 40 (0,0)) (by (with_reducible repeat first|apply b1_|apply b2_|apply b3_);exact BK340.out) hb)
     have n1_:=m_ (blk_below (g:=gb341) (o:=.cells #[.int .i64 a1_0,.int .i64 a1_1] 40 (0,0)) (by (with_reducible repeat first|apply b1_|apply b2_|apply b3_);exact BK341.out) hb)
     have n2_:=m_ (blk_below (g:=gb357) (o:=.cells #[.int .i64 0,.int .i64 0,.int .i64 0,.int .i64 0,.string (⟨#[]⟩ : ByteArray),.string (⟨#[]⟩ : ByteArray),.int .i64 0,.int .i64 0,.string (⟨#[]⟩ : ByteArray),.string (⟨#[]⟩ : ByteArray)] 42 (0,0)) (by (with_reducible repeat first|apply b1_|apply b2_|apply b3_);exact BK357.out) hb)
     have n3_:=m_ (l5_ (by repeat (first|(with_reducible first|exact HB.out|apply l1_|apply l2_|apply l3_|refine l4_ ?_ GE340.out|refine l4_ ?_ GE341.out|refine l4_ ?_ GE357.out)|exact HB.out)) hb)
     clear BK340
     clear BK341
     clear BK357
     clear HB
     have BK340:=n0_
     have BK341:=n1_
     have BK357:=n2_
     have HB:=n3_
     clear n0_ n1_ n2_ n3_
     (try clear hb)
     (try clear hb2)
     (try clear hk)
     (try clear hi)
     refine hK.out _ _ ⟨(c_ BK340.out 0).trans rfl,(c_ BK340.out 1).trans rfl,(c_ BK341.out 0).trans rfl,(c_ BK341.out 1).trans rfl⟩ (fun hHeld=>?_)
     clear hK K
     refine norm_ (a':=?_) ?_ ?_
     rotate_left
     ·show Act.put _ (some 21) _ = _
      simp only [Act.put,s1_,s2_,s3_,i64_w,i32_w]
      rfl
     refine one_ (i:=3) (N:=some 23) #[true,true,true,true,true,true,false,false,false,false,true,false,false] rfl rfl (one_of HT_.out (by kernel_rfl)) (by decide) (fun K hK=>?_)
     refine goes_ Tryd.func29 (by kernel_rfl) rfl #[.agg #[.int .i64 a1_0,.int .i64 a1_1]] (by rfl) rfl rfl (by (try simp only [List.map_toArray,List.map_cons,List.map_nil]);first|done|rfl|(simp only [List.length_drop,List.length_take];rfl)) ?_
     with_reducible refine (laws_toEnd.calls a1_0 a1_1 t344 t345 _ A12.out).mono ?_
     rintro e w25 ⟨rfl,hb⟩
     refine ⟨_,rfl,?_⟩
     have n0_:=m_ (blk_below (g:=gb340) (o:=.cells #[.int .i64 a0_0,.int .i64 a0_1] 40 (0,0)) (by (with_reducible repeat first|apply b1_|apply b2_|apply b3_);exact BK340.out) hb)
     have n1_:=m_ (blk_below (g:=gb341) (o:=.cells #[.int .i64 a1_0,.int .i64 a1_1] 40 (0,0)) (by (with_reducible repeat first|apply b1_|apply b2_|apply b3_);exact BK341.out) hb)
     have n2_:=m_ (blk_below (g:=gb357) (o:=.cells #[.int .i64 0,.int .i64 0,.int .i64 0,.int .i64 0,.string (⟨#[]⟩ : ByteArray),.string (⟨#[]⟩ : ByteArray),.int .i64 0,.int .i64 0,.string (⟨#[]⟩ : ByteArray),.string (⟨#[]⟩ : ByteArray)] 42 (0,0)) (by (with_reducible repeat first|apply b1_|apply b2_|apply b3_);exact BK357.out) hb)
     have n3_:=m_ (l5_ (by repeat (first|(with_reducible first|exact HB.out|apply l1_|apply l2_|apply l3_|refine l4_ ?_ GE340.out|refine l4_ ?_ GE341.out|refine l4_ ?_ GE357.out)|exact HB.out)) hb)
     clear BK340
     clear BK341
     clear BK357
     clear HB
     have BK340:=n0_
     have BK341:=n1_
     have BK357:=n2_
     have HB:=n3_
     clear n0_ n1_ n2_ n3_
     (try clear hb)
     (try clear hb2)
     (try clear hk)
     (try clear hi)
     refine hK.out _ _ ⟨(c_ BK340.out 0).trans rfl,(c_ BK340.out 1).trans rfl,(c_ BK341.out 0).trans rfl,(c_ BK341.out 1).trans rfl⟩ (fun hHeld=>?_)
     clear hK K
     refine norm_ (a':=?_) ?_ ?_
     rotate_left
     ·show Act.put _ (some 23) _ = _
      simp only [Act.put,s1_,s2_,s3_,i64_w,i32_w]
      rfl
     refine one_ (i:=6) (N:=some 26) #[true,true,true,true,true,true,true,false,false,false,true,false,false] rfl rfl (one_of HT_.out (by kernel_rfl)) (by decide) (fun K hK=>?_)
     refine goes_ Tryd.func28 (by kernel_rfl) rfl #[.agg #[.int .i64 t342,.int .i64 t343],.agg #[.int .i64 t344,.int .i64 t345],.string a2,.string a3] (by rfl) rfl rfl (by (try simp only [List.map_toArray,List.map_cons,List.map_nil]);first|done|rfl|(simp only [List.length_drop,List.length_take];rfl)) ?_
     with_reducible refine (spec_ConvNew.calls k t342 t343 t344 t345 a2 a3 t346 t347 t348 t349 t350 t351 t352 t353 t354 t355 t356 _ A13.out).mono ?_
     rintro e w26 ⟨rfl,hb⟩
     refine ⟨_,rfl,?_⟩
     have n0_:=m_ (blk_below (g:=gb340) (o:=.cells #[.int .i64 a0_0,.int .i64 a0_1] 40 (0,0)) (by (with_reducible repeat first|apply b1_|apply b2_|apply b3_);exact BK340.out) hb)
     have n1_:=m_ (blk_below (g:=gb341) (o:=.cells #[.int .i64 a1_0,.int .i64 a1_1] 40 (0,0)) (by (with_reducible repeat first|apply b1_|apply b2_|apply b3_);exact BK341.out) hb)
     have n2_:=m_ (blk_below (g:=gb357) (o:=.cells #[.int .i64 0,.int .i64 0,.int .i64 0,.int .i64 0,.string (⟨#[]⟩ : ByteArray),.string (⟨#[]⟩ : ByteArray),.int .i64 0,.int .i64 0,.string (⟨#[]⟩ : ByteArray),.string (⟨#[]⟩ : ByteArray)] 42 (0,0)) (by (with_reducible repeat first|apply b1_|apply b2_|apply b3_);exact BK357.out) hb)
     have n3_:=m_ (l5_ (by repeat (first|(with_reducible first|exact HB.out|apply l1_|apply l2_|apply l3_|refine l4_ ?_ GE340.out|refine l4_ ?_ GE341.out|refine l4_ ?_ GE357.out)|exact HB.out)) hb)
     clear BK340
     clear BK341
     clear BK357
     clear HB
     have BK340:=n0_
     have BK341:=n1_
     have BK357:=n2_
     have HB:=n3_
     clear n0_ n1_ n2_ n3_
     (try clear hb)
     (try clear hb2)
     (try clear hk)
     (try clear hi)
     refine hK.out _ _ ⟨(c_ BK340.out 0).trans rfl,(c_ BK340.out 1).trans rfl,(c_ BK341.out 0).trans rfl,(c_ BK341.out 1).trans rfl⟩ (fun hHeld=>?_)
     clear hK K
     refine norm_ (a':=?_) ?_ ?_
     rotate_left
     ·show Act.put _ (some 26) _ = _
      simp only [Act.put,s1_,s2_,s3_,i64_w,i32_w]
      rfl
     refine pure_ (i:=7) (N:=some 19) (v:=?_) (a':=?_) #[true,true,true,true,true,true,true,true,false,false,true,false,false] rfl rfl (any_of HT_.out (by kernel_rfl)) (fun _ _ _ h=>h) (Or.inl ⟨by rfl,?_⟩) ?_ ?_
     rotate_left
     ·intro w'
      go_simp
      with_reducible rfl
     rotate_left
     ·simp only [Act.put,s1_,s2_,s3_,i64_w,i32_w]
      rfl
     refine pure_ (i:=8) (N:=some 27) (v:=?_) (a':=?_) #[true,true,true,true,true,true,true,true,true,false,true,false,false] rfl rfl (any_of HT_.out (by kernel_rfl)) (fun _ _ _ h=>h) (Or.inl ⟨by rfl,?_⟩) ?_ ?_
     rotate_left
     ·intro w'
      go_simp
      with_reducible rfl
     rotate_left
     ·simp only [Act.put,s1_,s2_,s3_,i64_w,i32_w]
      rfl
     refine pure_ (i:=9) (N:=some 28) (v:=?_) (a':=?_) #[true,true,true,true,true,true,true,true,true,true,true,false,false] rfl rfl (any_of HT_.out (by kernel_rfl)) (fun _ _ _ h=>h) (Or.inl ⟨by rfl,?_⟩) ?_ ?_
     rotate_left
     ·intro w'
      go_simp
      with_reducible rfl
     rotate_left
     ·simp only [Act.put,s1_,s2_,s3_,i64_w,i32_w]
      rfl
     exact norm_ (by simp only [putAll,Act.put,s1_,s2_,s3_]) (hCont (gb357) _ ⟨hHeld,(by (with_reducible repeat first|apply b1_|apply b2_|apply b3_);exact BK340.out),(by (with_reducible repeat first|apply b1_|apply b2_|apply b3_);exact BK341.out),(by (with_reducible repeat first|apply b1_|apply b2_|apply b3_);exact BK357.out),GW357.out,GE357.out,NB340_357.out,NB357_340.out,NB341_357.out,NB357_341.out,(by repeat (first|(with_reducible first|exact HB.out|apply l1_|apply l2_|apply l3_|refine l4_ ?_ GE340.out|refine l4_ ?_ GE341.out|refine l4_ ?_ GE357.out)|exact HB.out))⟩)
   rintro gb357 w27 ⟨hS_,h0_,h1_,h2_,h3_,h4_,h5_,h6_,h7_,h8_,h9_⟩
   have n0_ : Aside0 (w27.heap[gb340]? = some (.cells #[.int .i64 a0_0,.int .i64 a0_1] 40 (0,0))):=⟨h0_⟩
   have n1_ : Aside0 (w27.heap[gb341]? = some (.cells #[.int .i64 a1_0,.int .i64 a1_1] 40 (0,0))):=⟨h1_⟩
   have n2_ : Aside0 (w27.heap[gb357]? = some (.cells #[.int .i64 0,.int .i64 0,.int .i64 0,.int .i64 0,.string (⟨#[]⟩ : ByteArray),.string (⟨#[]⟩ : ByteArray),.int .i64 0,.int .i64 0,.string (⟨#[]⟩ : ByteArray),.string (⟨#[]⟩ : ByteArray)] 42 (0,0))):=⟨h2_⟩
   have n3_ : Aside0 (w.heap.size ≤ gb357):=⟨h3_⟩
   have n4_ : Aside0 (w.heap.size ≤ gb357):=⟨h4_⟩
   have n5_ : Aside0 (gb340 ≠ gb357):=⟨h5_⟩
   have n6_ : Aside0 (gb357 ≠ gb340):=⟨h6_⟩
   have n7_ : Aside0 (gb341 ≠ gb357):=⟨h7_⟩
   have n8_ : Aside0 (gb357 ≠ gb341):=⟨h8_⟩
   have n9_ : Aside0 (Below w.heap.size w w27):=⟨h9_⟩
   clear BK340
   clear BK341
   clear HB
   clear h0_ h1_ h2_ h3_ h4_ h5_ h6_ h7_ h8_ h9_
   have BK340:=n0_
   have BK341:=n1_
   have BK357:=n2_
   have GW357:=n3_
   have GE357:=n4_
   have NB340_357:=n5_
   have NB357_340:=n6_
   have NB341_357:=n7_
   have NB357_341:=n8_
   have HB:=n9_
   clear n0_ n1_ n2_ n3_ n4_ n5_ n6_ n7_ n8_ n9_
   have hHeld : w27.cell? ⟨gb340,0,none⟩ = some (.int .i64 a0_0) ∧ w27.cell? ⟨gb340,1,none⟩ = some (.int .i64 a0_1) ∧ w27.cell? ⟨gb341,0,none⟩ = some (.int .i64 a1_0) ∧ w27.cell? ⟨gb341,1,none⟩ = some (.int .i64 a1_1):=hS_
   refine norm_ (a':=?_) ?_ ?_
   rotate_left
   ·simp only [putAll,Act.put,s1_,s2_,s3_]
    rfl
   refine one_ (i:=11) (N:=none) #[true,true,true,true,true,true,true,true,true,true,true,true,false] rfl rfl (one_of HT_.out (by kernel_rfl)) (by decide) (fun K hK=>?_)
   have hs28 : w27.cell? ⟨gb357,0,none⟩ = some (.int .i64 0):=(c_ BK357.out 0).trans rfl
   have hfs28:=f_ BK357.out 0
   have hns28_0:=NB340_357.out
   have hns28_1:=NB341_357.out
   have hms28_0:=NB357_340.out
   have hms28_1:=NB357_341.out
   have hs29 : w27.cell? ⟨gb357,1,none⟩ = some (.int .i64 0):=(c_ BK357.out 1).trans rfl
   have hfs29:=f_ BK357.out 1
   have hns29_0:=NB340_357.out
   have hns29_1:=NB341_357.out
   have hms29_0:=NB357_340.out
   have hms29_1:=NB357_341.out
   have hs30 : w27.cell? ⟨gb357,2,none⟩ = some (.int .i64 0):=(c_ BK357.out 2).trans rfl
   have hfs30:=f_ BK357.out 2
   have hns30_0:=NB340_357.out
   have hns30_1:=NB341_357.out
   have hms30_0:=NB357_340.out
   have hms30_1:=NB357_341.out
   have hs31 : w27.cell? ⟨gb357,3,none⟩ = some (.int .i64 0):=(c_ BK357.out 3).trans rfl
   have hfs31:=f_ BK357.out 3
   have hns31_0:=NB340_357.out
   have hns31_1:=NB341_357.out
   have hms31_0:=NB357_340.out
   have hms31_1:=NB357_341.out
   have hs32 : w27.cell? ⟨gb357,4,none⟩ = some (.string (⟨#[]⟩ : ByteArray)):=(c_ BK357.out 4).trans rfl
   have hfs32:=f_ BK357.out 4
   have hns32_0:=NB340_357.out
   have hns32_1:=NB341_357.out
   have hms32_0:=NB357_340.out
   have hms32_1:=NB357_341.out
   have hs33 : w27.cell? ⟨gb357,5,none⟩ = some (.string (⟨#[]⟩ : ByteArray)):=(c_ BK357.out 5).trans rfl
   have hfs33:=f_ BK357.out 5
   have hns33_0:=NB340_357.out
   have hns33_1:=NB341_357.out
   have hms33_0:=NB357_340.out
   have hms33_1:=NB357_341.out
   have hs34 : w27.cell? ⟨gb357,6,none⟩ = some (.int .i64 0):=(c_ BK357.out 6).trans rfl
   have hfs34:=f_ BK357.out 6
   have hns34_0:=NB340_357.out
   have hns34_1:=NB341_357.out
   have hms34_0:=NB357_340.out
   have hms34_1:=NB357_341.out
   have hs35 : w27.cell? ⟨gb357,7,none⟩ = some (.int .i64 0):=(c_ BK357.out 7).trans rfl
   have hfs35:=f_ BK357.out 7
   have hns35_0:=NB340_357.out
   have hns35_1:=NB341_357.out
   have hms35_0:=NB357_340.out
   have hms35_1:=NB357_341.out
   have hs36 : w27.cell? ⟨gb357,8,none⟩ = some (.string (⟨#[]⟩ : ByteArray)):=(c_ BK357.out 8).trans rfl
   have hfs36:=f_ BK357.out 8
   have hns36_0:=NB340_357.out
   have hns36_1:=NB341_357.out
   have hms36_0:=NB357_340.out
   have hms36_1:=NB357_341.out
   have hs37 : w27.cell? ⟨gb357,9,none⟩ = some (.string (⟨#[]⟩ : ByteArray)):=(c_ BK357.out 9).trans rfl
   have hfs37:=f_ BK357.out 9
   have hns37_0:=NB340_357.out
   have hns37_1:=NB341_357.out
   have hms37_0:=NB357_340.out
   have hms37_1:=NB357_341.out
   refine skip_ (w1:=?_) (by rfl) rfl ?_ ?_
   rotate_left
   ·go_simp
    rfl
   refine hK.out _ _ ⟨((cell_far (p:=⟨gb357,_,none⟩) NB340_357.out _).trans (((cell_far (p:=⟨gb357,_,none⟩) NB340_357.out _).trans (((cell_far (p:=⟨gb357,_,none⟩) NB340_357.out _).trans (((cell_far (p:=⟨gb357,_,none⟩) NB340_357.out _).trans (((cell_far (p:=⟨gb357,_,none⟩) NB340_357.out _).trans (((cell_far (p:=⟨gb357,_,none⟩) NB340_357.out _).trans (((cell_far (p:=⟨gb357,_,none⟩) NB340_357.out _).trans (((cell_far (p:=⟨gb357,_,none⟩) NB340_357.out _).trans (((cell_far (p:=⟨gb357,_,none⟩) NB340_357.out _).trans (((cell_far (p:=⟨gb357,_,none⟩) NB340_357.out _).trans (hHeld.1)))))))))))))))))))),((cell_far (p:=⟨gb357,_,none⟩) NB340_357.out _).trans (((cell_far (p:=⟨gb357,_,none⟩) NB340_357.out _).trans (((cell_far (p:=⟨gb357,_,none⟩) NB340_357.out _).trans (((cell_far (p:=⟨gb357,_,none⟩) NB340_357.out _).trans (((cell_far (p:=⟨gb357,_,none⟩) NB340_357.out _).trans (((cell_far (p:=⟨gb357,_,none⟩) NB340_357.out _).trans (((cell_far (p:=⟨gb357,_,none⟩) NB340_357.out _).trans (((cell_far (p:=⟨gb357,_,none⟩) NB340_357.out _).trans (((cell_far (p:=⟨gb357,_,none⟩) NB340_357.out _).trans (((cell_far (p:=⟨gb357,_,none⟩) NB340_357.out _).trans (hHeld.2.1)))))))))))))))))))),((cell_far (p:=⟨gb357,_,none⟩) NB341_357.out _).trans (((cell_far (p:=⟨gb357,_,none⟩) NB341_357.out _).trans (((cell_far (p:=⟨gb357,_,none⟩) NB341_357.out _).trans (((cell_far (p:=⟨gb357,_,none⟩) NB341_357.out _).trans (((cell_far (p:=⟨gb357,_,none⟩) NB341_357.out _).trans (((cell_far (p:=⟨gb357,_,none⟩) NB341_357.out _).trans (((cell_far (p:=⟨gb357,_,none⟩) NB341_357.out _).trans (((cell_far (p:=⟨gb357,_,none⟩) NB341_357.out _).trans (((cell_far (p:=⟨gb357,_,none⟩) NB341_357.out _).trans (((cell_far (p:=⟨gb357,_,none⟩) NB341_357.out _).trans (hHeld.2.2.1)))))))))))))))))))),((cell_far (p:=⟨gb357,_,none⟩) NB341_357.out _).trans (((cell_far (p:=⟨gb357,_,none⟩) NB341_357.out _).trans (((cell_far (p:=⟨gb357,_,none⟩) NB341_357.out _).trans (((cell_far (p:=⟨gb357,_,none⟩) NB341_357.out _).trans (((cell_far (p:=⟨gb357,_,none⟩) NB341_357.out _).trans (((cell_far (p:=⟨gb357,_,none⟩) NB341_357.out _).trans (((cell_far (p:=⟨gb357,_,none⟩) NB341_357.out _).trans (((cell_far (p:=⟨gb357,_,none⟩) NB341_357.out _).trans (((cell_far (p:=⟨gb357,_,none⟩) NB341_357.out _).trans (((cell_far (p:=⟨gb357,_,none⟩) NB341_357.out _).trans (hHeld.2.2.2))))))))))))))))))))⟩ (fun hHeld=>?_)
   clear hK K
   refine pure_ (i:=12) (N:=some 10) (v:=?_) (a':=?_) #[true,true,true,true,true,true,true,true,true,true,true,true,true] rfl rfl (any_of HT_.out (by kernel_rfl)) (fun _ _ _ h=>h) (Or.inl ⟨by rfl,?_⟩) ?_ ?_
   rotate_left
   ·intro w'
    go_simp
    with_reducible rfl
   rotate_left
   ·simp only [Act.put,s1_,s2_,s3_,i64_w,i32_w]
    rfl
   refine done_ (done_of HT_.out (by kernel_rfl)) ?_
   try go_wp2
   have n0_ : Aside0 (((((((((((w27.setCell ⟨gb357,0,none⟩ (.int .i64 t346)).setCell ⟨gb357,1,none⟩ (.int .i64 t347)).setCell ⟨gb357,2,none⟩ (.int .i64 t348)).setCell ⟨gb357,3,none⟩ (.int .i64 t349)).setCell ⟨gb357,4,none⟩ (.string t350)).setCell ⟨gb357,5,none⟩ (.string t351)).setCell ⟨gb357,6,none⟩ (.int .i64 t352)).setCell ⟨gb357,7,none⟩ (.int .i64 t353)).setCell ⟨gb357,8,none⟩ (.string t354)).setCell ⟨gb357,9,none⟩ (.string t355)).heap[gb340]? = some (.cells #[.int .i64 a0_0,.int .i64 a0_1] 40 (0,0))):=⟨by (with_reducible repeat first|apply b1_|apply b2_|apply b3_);refine b4_ ?_ NB340_357.out _;(with_reducible repeat first|apply b1_|apply b2_|apply b3_);refine b4_ ?_ NB340_357.out _;(with_reducible repeat first|apply b1_|apply b2_|apply b3_);refine b4_ ?_ NB340_357.out _;(with_reducible repeat first|apply b1_|apply b2_|apply b3_);refine b4_ ?_ NB340_357.out _;(with_reducible repeat first|apply b1_|apply b2_|apply b3_);refine b4_ ?_ NB340_357.out _;(with_reducible repeat first|apply b1_|apply b2_|apply b3_);refine b4_ ?_ NB340_357.out _;(with_reducible repeat first|apply b1_|apply b2_|apply b3_);refine b4_ ?_ NB340_357.out _;(with_reducible repeat first|apply b1_|apply b2_|apply b3_);refine b4_ ?_ NB340_357.out _;(with_reducible repeat first|apply b1_|apply b2_|apply b3_);refine b4_ ?_ NB340_357.out _;(with_reducible repeat first|apply b1_|apply b2_|apply b3_);refine b4_ ?_ NB340_357.out _;(with_reducible repeat first|apply b1_|apply b2_|apply b3_);exact BK340.out⟩
   have n1_ : Aside0 (((((((((((w27.setCell ⟨gb357,0,none⟩ (.int .i64 t346)).setCell ⟨gb357,1,none⟩ (.int .i64 t347)).setCell ⟨gb357,2,none⟩ (.int .i64 t348)).setCell ⟨gb357,3,none⟩ (.int .i64 t349)).setCell ⟨gb357,4,none⟩ (.string t350)).setCell ⟨gb357,5,none⟩ (.string t351)).setCell ⟨gb357,6,none⟩ (.int .i64 t352)).setCell ⟨gb357,7,none⟩ (.int .i64 t353)).setCell ⟨gb357,8,none⟩ (.string t354)).setCell ⟨gb357,9,none⟩ (.string t355)).heap[gb341]? = some (.cells #[.int .i64 a1_0,.int .i64 a1_1] 40 (0,0))):=⟨by (with_reducible repeat first|apply b1_|apply b2_|apply b3_);refine b4_ ?_ NB341_357.out _;(with_reducible repeat first|apply b1_|apply b2_|apply b3_);refine b4_ ?_ NB341_357.out _;(with_reducible repeat first|apply b1_|apply b2_|apply b3_);refine b4_ ?_ NB341_357.out _;(with_reducible repeat first|apply b1_|apply b2_|apply b3_);refine b4_ ?_ NB341_357.out _;(with_reducible repeat first|apply b1_|apply b2_|apply b3_);refine b4_ ?_ NB341_357.out _;(with_reducible repeat first|apply b1_|apply b2_|apply b3_);refine b4_ ?_ NB341_357.out _;(with_reducible repeat first|apply b1_|apply b2_|apply b3_);refine b4_ ?_ NB341_357.out _;(with_reducible repeat first|apply b1_|apply b2_|apply b3_);refine b4_ ?_ NB341_357.out _;(with_reducible repeat first|apply b1_|apply b2_|apply b3_);refine b4_ ?_ NB341_357.out _;(with_reducible repeat first|apply b1_|apply b2_|apply b3_);refine b4_ ?_ NB341_357.out _;(with_reducible repeat first|apply b1_|apply b2_|apply b3_);exact BK341.out⟩
   have n2_ : Aside0 (((((((((((w27.setCell ⟨gb357,0,none⟩ (.int .i64 t346)).setCell ⟨gb357,1,none⟩ (.int .i64 t347)).setCell ⟨gb357,2,none⟩ (.int .i64 t348)).setCell ⟨gb357,3,none⟩ (.int .i64 t349)).setCell ⟨gb357,4,none⟩ (.string t350)).setCell ⟨gb357,5,none⟩ (.string t351)).setCell ⟨gb357,6,none⟩ (.int .i64 t352)).setCell ⟨gb357,7,none⟩ (.int .i64 t353)).setCell ⟨gb357,8,none⟩ (.string t354)).setCell ⟨gb357,9,none⟩ (.string t355)).heap[gb357]? = some (.cells #[.int .i64 t346,.int .i64 t347,.int .i64 t348,.int .i64 t349,.string t350,.string t351,.int .i64 t352,.int .i64 t353,.string t354,.string t355] 42 (0,0))):=⟨by (with_reducible repeat first|apply b1_|apply b2_|apply b3_);refine blk_put (cs:=#[.int .i64 t346,.int .i64 t347,.int .i64 t348,.int .i64 t349,.string t350,.string t351,.int .i64 t352,.int .i64 t353,.string t354,.string (⟨#[]⟩ : ByteArray)]) ?_ 9 _ rfl;(with_reducible repeat first|apply b1_|apply b2_|apply b3_);refine blk_put (cs:=#[.int .i64 t346,.int .i64 t347,.int .i64 t348,.int .i64 t349,.string t350,.string t351,.int .i64 t352,.int .i64 t353,.string (⟨#[]⟩ : ByteArray),.string (⟨#[]⟩ : ByteArray)]) ?_ 8 _ rfl;(with_reducible repeat first|apply b1_|apply b2_|apply b3_);refine blk_put (cs:=#[.int .i64 t346,.int .i64 t347,.int .i64 t348,.int .i64 t349,.string t350,.string t351,.int .i64 t352,.int .i64 0,.string (⟨#[]⟩ : ByteArray),.string (⟨#[]⟩ : ByteArray)]) ?_ 7 _ rfl;(with_reducible repeat first|apply b1_|apply b2_|apply b3_);refine blk_put (cs:=#[.int .i64 t346,.int .i64 t347,.int .i64 t348,.int .i64 t349,.string t350,.string t351,.int .i64 0,.int .i64 0,.string (⟨#[]⟩ : ByteArray),.string (⟨#[]⟩ : ByteArray)]) ?_ 6 _ rfl;(with_reducible repeat first|apply b1_|apply b2_|apply b3_);refine blk_put (cs:=#[.int .i64 t346,.int .i64 t347,.int .i64 t348,.int .i64 t349,.string t350,.string (⟨#[]⟩ : ByteArray),.int .i64 0,.int .i64 0,.string (⟨#[]⟩ : ByteArray),.string (⟨#[]⟩ : ByteArray)]) ?_ 5 _ rfl;(with_reducible repeat first|apply b1_|apply b2_|apply b3_);refine blk_put (cs:=#[.int .i64 t346,.int .i64 t347,.int .i64 t348,.int .i64 t349,.string (⟨#[]⟩ : ByteArray),.string (⟨#[]⟩ : ByteArray),.int .i64 0,.int .i64 0,.string (⟨#[]⟩ : ByteArray),.string (⟨#[]⟩ : ByteArray)]) ?_ 4 _ rfl;(with_reducible repeat first|apply b1_|apply b2_|apply b3_);refine blk_put (cs:=#[.int .i64 t346,.int .i64 t347,.int .i64 t348,.int .i64 0,.string (⟨#[]⟩ : ByteArray),.string (⟨#[]⟩ : ByteArray),.int .i64 0,.int .i64 0,.string (⟨#[]⟩ : ByteArray),.string (⟨#[]⟩ : ByteArray)]) ?_ 3 _ rfl;(with_reducible repeat first|apply b1_|apply b2_|apply b3_);refine blk_put (cs:=#[.int .i64 t346,.int .i64 t347,.int .i64 0,.int .i64 0,.string (⟨#[]⟩ : ByteArray),.string (⟨#[]⟩ : ByteArray),.int .i64 0,.int .i64 0,.string (⟨#[]⟩ : ByteArray),.string (⟨#[]⟩ : ByteArray)]) ?_ 2 _ rfl;(with_reducible repeat first|apply b1_|apply b2_|apply b3_);refine blk_put (cs:=#[.int .i64 t346,.int .i64 0,.int .i64 0,.int .i64 0,.string (⟨#[]⟩ : ByteArray),.string (⟨#[]⟩ : ByteArray),.int .i64 0,.int .i64 0,.string (⟨#[]⟩ : ByteArray),.string (⟨#[]⟩ : ByteArray)]) ?_ 1 _ rfl;(with_reducible repeat first|apply b1_|apply b2_|apply b3_);refine blk_put (cs:=#[.int .i64 0,.int .i64 0,.int .i64 0,.int .i64 0,.string (⟨#[]⟩ : ByteArray),.string (⟨#[]⟩ : ByteArray),.int .i64 0,.int .i64 0,.string (⟨#[]⟩ : ByteArray),.string (⟨#[]⟩ : ByteArray)]) ?_ 0 _ rfl;(with_reducible repeat first|apply b1_|apply b2_|apply b3_);exact BK357.out⟩
   have n3_ : Aside0 (Below w.heap.size w ((((((((((w27.setCell ⟨gb357,0,none⟩ (.int .i64 t346)).setCell ⟨gb357,1,none⟩ (.int .i64 t347)).setCell ⟨gb357,2,none⟩ (.int .i64 t348)).setCell ⟨gb357,3,none⟩ (.int .i64 t349)).setCell ⟨gb357,4,none⟩ (.string t350)).setCell ⟨gb357,5,none⟩ (.string t351)).setCell ⟨gb357,6,none⟩ (.int .i64 t352)).setCell ⟨gb357,7,none⟩ (.int .i64 t353)).setCell ⟨gb357,8,none⟩ (.string t354)).setCell ⟨gb357,9,none⟩ (.string t355))):=⟨by repeat (first|(with_reducible first|exact HB.out|apply l1_|apply l2_|apply l3_|refine l4_ ?_ GE340.out|refine l4_ ?_ GE341.out|refine l4_ ?_ GE357.out)|exact HB.out)⟩
   (try clear BK340)
   (try clear BK341)
   (try clear BK357)
   (try clear HB)
   generalize ((((((((((w27.setCell ⟨gb357,0,none⟩ (.int .i64 t346)).setCell ⟨gb357,1,none⟩ (.int .i64 t347)).setCell ⟨gb357,2,none⟩ (.int .i64 t348)).setCell ⟨gb357,3,none⟩ (.int .i64 t349)).setCell ⟨gb357,4,none⟩ (.string t350)).setCell ⟨gb357,5,none⟩ (.string t351)).setCell ⟨gb357,6,none⟩ (.int .i64 t352)).setCell ⟨gb357,7,none⟩ (.int .i64 t353)).setCell ⟨gb357,8,none⟩ (.string t354)).setCell ⟨gb357,9,none⟩ (.string t355)) = w38 at n0_ n1_ n2_ n3_ ⊢
   have BK340:=n0_
   have BK341:=n1_
   have BK357:=n2_
   have HB:=n3_
   clear n0_ n1_ n2_ n3_
   have n0_:=m_ (b2_ BK340.out)
   have n1_:=m_ (b2_ BK341.out)
   have n2_:=m_ (b2_ BK357.out)
   have n3_:=m_ (l3_ HB.out)
   clear BK340
   clear BK341
   clear BK357
   clear HB
   have BK340:=n0_
   have BK341:=n1_
   have BK357:=n2_
   have HB:=n3_
   clear n0_ n1_ n2_ n3_
   refine start_ (n:=13) (S:=fun w'=>w'.cell? ⟨gb340,0,none⟩ = some (.int .i64 a0_0) ∧ w'.cell? ⟨gb340,1,none⟩ = some (.int .i64 a0_1) ∧ w'.cell? ⟨gb341,0,none⟩ = some (.int .i64 a1_0) ∧ w'.cell? ⟨gb341,1,none⟩ = some (.int .i64 a1_1)) (ds:=[]) #[false,false,false,false,false,false,false,false,false,false,false,false,false] (by kernel_rfl) rfl rfl ⟨(c_ BK340.out 0).trans rfl,(c_ BK340.out 1).trans rfl,(c_ BK341.out 0).trans rfl,(c_ BK341.out 1).trans rfl⟩ (fun hHeld=>?_);refine with_tabW laws_FnExactConvNew.tab6 laws_FnExactConvNew.bits6 (fun HT_ HW_=>?_)
   generalize w38.drew = w39 at BK340 BK341 BK357 HB hHeld ⊢
   refine pure_ (i:=4) (N:=some 34) (v:=?_) (a':=?_) #[false,false,false,false,true,false,false,false,false,false,false,false,false] rfl rfl (any_of HT_.out (by kernel_rfl)) (fun _ _ _ h=>h) (Or.inl ⟨by rfl,?_⟩) ?_ ?_
   rotate_left
   ·intro w'
    go_simp
    with_reducible rfl
   rotate_left
   ·simp only [Act.put,s1_,s2_,s3_,i64_w,i32_w]
    rfl
   refine pure_ (i:=5) (N:=some 35) (v:=?_) (a':=?_) #[false,false,false,false,true,true,false,false,false,false,false,false,false] rfl rfl (any_of HT_.out (by kernel_rfl)) (fun _ _ _ h=>h) (Or.inl ⟨by rfl,?_⟩) ?_ ?_
   rotate_left
   ·intro w'
    go_simp
    with_reducible rfl
   rotate_left
   ·simp only [Act.put,s1_,s2_,s3_,i64_w,i32_w]
    rfl
   refine take_ (i:=0) (N:=some 30) (v:=?_) (a':=?_) #[true,false,false,false,true,true,false,false,false,false,false,false,false] rfl rfl (take_ofW HT_.out HW_.out (by kernel_rfl)) (fun _ _ _ h=>h) (Or.inl ⟨by rfl,?_⟩) hHeld ?_ ?_
   rotate_left
   ·rintro w' ⟨s0,s1,s2,s3⟩
    go_simp
    with_reducible rfl
   rotate_left
   ·simp only [Act.put,s1_,s2_,s3_,i64_w,i32_w]
    rfl
   refine take_ (i:=2) (N:=some 32) (v:=?_) (a':=?_) #[true,false,true,false,true,true,false,false,false,false,false,false,false] rfl rfl (take_ofW HT_.out HW_.out (by kernel_rfl)) (fun _ _ _ h=>h) (Or.inl ⟨by rfl,?_⟩) hHeld ?_ ?_
   rotate_left
   ·rintro w' ⟨s0,s1,s2,s3⟩
    go_simp
    with_reducible rfl
   rotate_left
   ·simp only [Act.put,s1_,s2_,s3_,i64_w,i32_w]
    rfl
   refine join_ (σ:=Nat) 2 #[true,true,true,true,true,true,true,true,true,true,true,false,false] (fun s_=>[(31,.agg #[.int .i64 t358,.int .i64 t359]),(33,.agg #[.int .i64 t360,.int .i64 t361]),(36,.tuple #[.agg #[.int .i64 t362,.int .i64 t363,.int .i64 t364,.int .i64 t365,.string t366,.string t367,.int .i64 t368,.int .i64 t369,.string t370,.string t371],.bool t372]),(11,.pointer (some ⟨s_,0,none⟩)),(29,.tuple #[.agg #[.int .i64 t362,.int .i64 t363,.int .i64 t364,.int .i64 t365,.string t366,.string t367,.int .i64 t368,.int .i64 t369,.string t370,.string t371],.bool t372]),(37,.agg #[.int .i64 t362,.int .i64 t363,.int .i64 t364,.int .i64 t365,.string t366,.string t367,.int .i64 t368,.int .i64 t369,.string t370,.string t371]),(38,.bool t372)]) (fun s_ w'=>(w'.cell? ⟨gb340,0,none⟩ = some (.int .i64 a0_0) ∧ w'.cell? ⟨gb340,1,none⟩ = some (.int .i64 a0_1) ∧ w'.cell? ⟨gb341,0,none⟩ = some (.int .i64 a1_0) ∧ w'.cell? ⟨gb341,1,none⟩ = some (.int .i64 a1_1)) ∧ (w'.heap[gb340]? = some (.cells #[.int .i64 a0_0,.int .i64 a0_1] 40 (0,0))) ∧ (w'.heap[gb341]? = some (.cells #[.int .i64 a1_0,.int .i64 a1_1] 40 (0,0))) ∧ (w'.heap[gb357]? = some (.cells #[.int .i64 t346,.int .i64 t347,.int .i64 t348,.int .i64 t349,.string t350,.string t351,.int .i64 t352,.int .i64 t353,.string t354,.string t355] 42 (0,0))) ∧ (w'.heap[s_]? = some (.cells #[.int .i64 0,.int .i64 0,.int .i64 0,.int .i64 0,.string (⟨#[]⟩ : ByteArray),.string (⟨#[]⟩ : ByteArray),.int .i64 0,.int .i64 0,.string (⟨#[]⟩ : ByteArray),.string (⟨#[]⟩ : ByteArray)] 42 (0,0))) ∧ (w.heap.size ≤ s_) ∧ (w.heap.size ≤ s_) ∧ (gb340 ≠ s_) ∧ (s_ ≠ gb340) ∧ (gb341 ≠ s_) ∧ (s_ ≠ gb341) ∧ (gb357 ≠ s_) ∧ (s_ ≠ gb357) ∧ (Below w.heap.size w w')) ?_ ?_
   rotate_left
   ·intro hCont
    refine two_ (i:=1) (j:=10) (Ni:=some 31) (Nj:=some 11) #[true,true,true,false,true,true,false,false,false,false,false,false,false] #[true,false,true,false,true,true,false,false,false,false,true,false,false] rfl rfl rfl rfl (two_of HT_.out (by kernel_rfl)) (by decide) (by decide) (fun K hK=>?_) (fun K hK=>?_)
    ·skip
     refine goes_ Tryd.func29 (by kernel_rfl) rfl #[.agg #[.int .i64 a0_0,.int .i64 a0_1]] (by rfl) rfl rfl (by (try simp only [List.map_toArray,List.map_cons,List.map_nil]);first|done|rfl|(simp only [List.length_drop,List.length_take];rfl)) ?_
     with_reducible refine (laws_toEnd.calls a0_0 a0_1 t358 t359 _ A14.out).mono ?_
     rintro e w40 ⟨rfl,hb⟩
     refine ⟨_,rfl,?_⟩
     have n0_:=m_ (blk_below (g:=gb340) (o:=.cells #[.int .i64 a0_0,.int .i64 a0_1] 40 (0,0)) (by (with_reducible repeat first|apply b1_|apply b2_|apply b3_);exact BK340.out) hb)
     have n1_:=m_ (blk_below (g:=gb341) (o:=.cells #[.int .i64 a1_0,.int .i64 a1_1] 40 (0,0)) (by (with_reducible repeat first|apply b1_|apply b2_|apply b3_);exact BK341.out) hb)
     have n2_:=m_ (blk_below (g:=gb357) (o:=.cells #[.int .i64 t346,.int .i64 t347,.int .i64 t348,.int .i64 t349,.string t350,.string t351,.int .i64 t352,.int .i64 t353,.string t354,.string t355] 42 (0,0)) (by (with_reducible repeat first|apply b1_|apply b2_|apply b3_);exact BK357.out) hb)
     have n3_:=m_ (l5_ (by repeat (first|(with_reducible first|exact HB.out|apply l1_|apply l2_|apply l3_|refine l4_ ?_ GE340.out|refine l4_ ?_ GE341.out|refine l4_ ?_ GE357.out)|exact HB.out)) hb)
     clear BK340
     clear BK341
     clear BK357
     clear HB
     have BK340:=n0_
     have BK341:=n1_
     have BK357:=n2_
     have HB:=n3_
     clear n0_ n1_ n2_ n3_
     (try clear hb)
     (try clear hb2)
     (try clear hk)
     (try clear hi)
     refine hK.out _ _ ⟨(c_ BK340.out 0).trans rfl,(c_ BK340.out 1).trans rfl,(c_ BK341.out 0).trans rfl,(c_ BK341.out 1).trans rfl⟩ (fun hHeld=>?_)
     clear hK K
     refine norm_ (a':=?_) ?_ ?_
     rotate_left
     ·show Act.put _ (some 31) _ = _
      simp only [Act.put,s1_,s2_,s3_,i64_w,i32_w]
      rfl
     refine two_ (i:=3) (j:=10) (Ni:=some 33) (Nj:=some 11) #[true,true,true,true,true,true,false,false,false,false,false,false,false] #[true,true,true,false,true,true,false,false,false,false,true,false,false] rfl rfl rfl rfl (two_of HT_.out (by kernel_rfl)) (by decide) (by decide) (fun K hK=>?_) (fun K hK=>?_)
     ·skip
      refine goes_ Tryd.func29 (by kernel_rfl) rfl #[.agg #[.int .i64 a1_0,.int .i64 a1_1]] (by rfl) rfl rfl (by (try simp only [List.map_toArray,List.map_cons,List.map_nil]);first|done|rfl|(simp only [List.length_drop,List.length_take];rfl)) ?_
      with_reducible refine (laws_toEnd.calls a1_0 a1_1 t360 t361 _ A15.out).mono ?_
      rintro e w41 ⟨rfl,hb⟩
      refine ⟨_,rfl,?_⟩
      have n0_:=m_ (blk_below (g:=gb340) (o:=.cells #[.int .i64 a0_0,.int .i64 a0_1] 40 (0,0)) (by (with_reducible repeat first|apply b1_|apply b2_|apply b3_);exact BK340.out) hb)
      have n1_:=m_ (blk_below (g:=gb341) (o:=.cells #[.int .i64 a1_0,.int .i64 a1_1] 40 (0,0)) (by (with_reducible repeat first|apply b1_|apply b2_|apply b3_);exact BK341.out) hb)
      have n2_:=m_ (blk_below (g:=gb357) (o:=.cells #[.int .i64 t346,.int .i64 t347,.int .i64 t348,.int .i64 t349,.string t350,.string t351,.int .i64 t352,.int .i64 t353,.string t354,.string t355] 42 (0,0)) (by (with_reducible repeat first|apply b1_|apply b2_|apply b3_);exact BK357.out) hb)
      have n3_:=m_ (l5_ (by repeat (first|(with_reducible first|exact HB.out|apply l1_|apply l2_|apply l3_|refine l4_ ?_ GE340.out|refine l4_ ?_ GE341.out|refine l4_ ?_ GE357.out)|exact HB.out)) hb)
      clear BK340
      clear BK341
      clear BK357
      clear HB
      have BK340:=n0_
      have BK341:=n1_
      have BK357:=n2_
      have HB:=n3_
      clear n0_ n1_ n2_ n3_
      (try clear hb)
      (try clear hb2)
      (try clear hk)
      (try clear hi)
      refine hK.out _ _ ⟨(c_ BK340.out 0).trans rfl,(c_ BK340.out 1).trans rfl,(c_ BK341.out 0).trans rfl,(c_ BK341.out 1).trans rfl⟩ (fun hHeld=>?_)
      clear hK K
      refine norm_ (a':=?_) ?_ ?_
      rotate_left
      ·show Act.put _ (some 33) _ = _
       simp only [Act.put,s1_,s2_,s3_,i64_w,i32_w]
       rfl
      refine two_ (i:=6) (j:=10) (Ni:=some 36) (Nj:=some 11) #[true,true,true,true,true,true,true,false,false,false,false,false,false] #[true,true,true,true,true,true,false,false,false,false,true,false,false] rfl rfl rfl rfl (two_of HT_.out (by kernel_rfl)) (by decide) (by decide) (fun K hK=>?_) (fun K hK=>?_)
      ·skip
       refine goes_ Tryd.func30 (by kernel_rfl) rfl #[.agg #[.int .i64 t358,.int .i64 t359],.agg #[.int .i64 t360,.int .i64 t361],.string a2,.string a3] (by rfl) rfl rfl (by (try simp only [List.map_toArray,List.map_cons,List.map_nil]);first|done|rfl|(simp only [List.length_drop,List.length_take];rfl)) ?_
       with_reducible refine (impl_ConvNew.calls k t358 t359 t360 t361 a2 a3 t362 t363 t364 t365 t366 t367 t368 t369 t370 t371 t372 _ ?side1 A16.out).mono ?_
       (case side1=>first|exact HG.out|exact GV_below HG.out (by repeat (first|(with_reducible first|exact HB.out|apply l1_|apply l2_|apply l3_|refine l4_ ?_ GE340.out|refine l4_ ?_ GE341.out|refine l4_ ?_ GE357.out)|exact HB.out)))
       rintro e w42 ⟨rfl,hb⟩
       refine ⟨_,rfl,?_⟩
       have n0_:=m_ (blk_below (g:=gb340) (o:=.cells #[.int .i64 a0_0,.int .i64 a0_1] 40 (0,0)) (by (with_reducible repeat first|apply b1_|apply b2_|apply b3_);exact BK340.out) hb)
       have n1_:=m_ (blk_below (g:=gb341) (o:=.cells #[.int .i64 a1_0,.int .i64 a1_1] 40 (0,0)) (by (with_reducible repeat first|apply b1_|apply b2_|apply b3_);exact BK341.out) hb)
       have n2_:=m_ (blk_below (g:=gb357) (o:=.cells #[.int .i64 t346,.int .i64 t347,.int .i64 t348,.int .i64 t349,.string t350,.string t351,.int .i64 t352,.int .i64 t353,.string t354,.string t355] 42 (0,0)) (by (with_reducible repeat first|apply b1_|apply b2_|apply b3_);exact BK357.out) hb)
       have n3_:=m_ (l5_ (by repeat (first|(with_reducible first|exact HB.out|apply l1_|apply l2_|apply l3_|refine l4_ ?_ GE340.out|refine l4_ ?_ GE341.out|refine l4_ ?_ GE357.out)|exact HB.out)) hb)
       clear BK340
       clear BK341
       clear BK357
       clear HB
       have BK340:=n0_
       have BK341:=n1_
       have BK357:=n2_
       have HB:=n3_
       clear n0_ n1_ n2_ n3_
       (try clear hb)
       (try clear hb2)
       (try clear hk)
       (try clear hi)
       refine hK.out _ _ ⟨(c_ BK340.out 0).trans rfl,(c_ BK340.out 1).trans rfl,(c_ BK341.out 0).trans rfl,(c_ BK341.out 1).trans rfl⟩ (fun hHeld=>?_)
       clear hK K
       refine norm_ (a':=?_) ?_ ?_
       rotate_left
       ·show Act.put _ (some 36) _ = _
        simp only [Act.put,s1_,s2_,s3_,i64_w,i32_w]
        rfl
       refine pure_ (i:=7) (N:=some 29) (v:=?_) (a':=?_) #[true,true,true,true,true,true,true,true,false,false,false,false,false] rfl rfl (any_of HT_.out (by kernel_rfl)) (fun _ _ _ h=>h) (Or.inl ⟨by rfl,?_⟩) ?_ ?_
       rotate_left
       ·intro w'
        go_simp
        with_reducible rfl
       rotate_left
       ·simp only [Act.put,s1_,s2_,s3_,i64_w,i32_w]
        rfl
       refine pure_ (i:=8) (N:=some 37) (v:=?_) (a':=?_) #[true,true,true,true,true,true,true,true,true,false,false,false,false] rfl rfl (any_of HT_.out (by kernel_rfl)) (fun _ _ _ h=>h) (Or.inl ⟨by rfl,?_⟩) ?_ ?_
       rotate_left
       ·intro w'
        go_simp
        with_reducible rfl
       rotate_left
       ·simp only [Act.put,s1_,s2_,s3_,i64_w,i32_w]
        rfl
       refine pure_ (i:=9) (N:=some 38) (v:=?_) (a':=?_) #[true,true,true,true,true,true,true,true,true,true,false,false,false] rfl rfl (any_of HT_.out (by kernel_rfl)) (fun _ _ _ h=>h) (Or.inl ⟨by rfl,?_⟩) ?_ ?_
       rotate_left
       ·intro w'
        go_simp
        with_reducible rfl
       rotate_left
       ·simp only [Act.put,s1_,s2_,s3_,i64_w,i32_w]
        rfl
       refine one_ (i:=10) (N:=some 11) #[true,true,true,true,true,true,true,true,true,true,true,false,false] rfl rfl (one_of HT_.out (by kernel_rfl)) (by decide) (fun K hK=>?_)
       refine box_step ?hg (N:=11) ?hd (cs:=#[.int .i64 0,.int .i64 0,.int .i64 0,.int .i64 0,.string (⟨#[]⟩ : ByteArray),.string (⟨#[]⟩ : ByteArray),.int .i64 0,.int .i64 0,.string (⟨#[]⟩ : ByteArray),.string (⟨#[]⟩ : ByteArray)]) (t:=42) ?hr ?_;(case hd=>rfl);(case hg=>rfl);(case hr=>first|(go_simp;done)|(go_simp;rfl))
       intro gb373 hg w43 hbox hb
       have n0_:=m_ (blk_below (g:=gb340) (o:=.cells #[.int .i64 a0_0,.int .i64 a0_1] 40 (0,0)) (by (with_reducible repeat first|apply b1_|apply b2_|apply b3_);exact BK340.out) hb)
       have n1_:=m_ (blk_below (g:=gb341) (o:=.cells #[.int .i64 a1_0,.int .i64 a1_1] 40 (0,0)) (by (with_reducible repeat first|apply b1_|apply b2_|apply b3_);exact BK341.out) hb)
       have n2_:=m_ (blk_below (g:=gb357) (o:=.cells #[.int .i64 t346,.int .i64 t347,.int .i64 t348,.int .i64 t349,.string t350,.string t351,.int .i64 t352,.int .i64 t353,.string t354,.string t355] 42 (0,0)) (by (with_reducible repeat first|apply b1_|apply b2_|apply b3_);exact BK357.out) hb)
       have n3_:=m_ (l5_ (by repeat (first|(with_reducible first|exact HB.out|apply l1_|apply l2_|apply l3_|refine l4_ ?_ GE340.out|refine l4_ ?_ GE341.out|refine l4_ ?_ GE357.out)|exact HB.out)) hb)
       have n4_:=m_ (hbox)
       have n5_:=m_ ((by rw [hg];exact (l6_ (by repeat (first|(with_reducible first|exact HB.out|apply l1_|apply l2_|apply l3_|refine l4_ ?_ GE340.out|refine l4_ ?_ GE341.out|refine l4_ ?_ GE357.out)|exact HB.out))) : w.heap.size ≤ gb373))
       have n6_:=m_ ((by rw [hg];exact (l6_ (by repeat (first|(with_reducible first|exact HB.out|apply l1_|apply l2_|apply l3_|refine l4_ ?_ GE340.out|refine l4_ ?_ GE341.out|refine l4_ ?_ GE357.out)|exact HB.out))) : w.heap.size ≤ gb373))
       have n7_:=m_ ((by rw [hg];exact Nat.ne_of_lt (blk_lt (g:=gb340) (o:=.cells #[.int .i64 a0_0,.int .i64 a0_1] 40 (0,0)) (by (with_reducible repeat first|apply b1_|apply b2_|apply b3_);exact BK340.out)) : gb340 ≠ gb373))
       have n8_:=m_ ((by rw [hg];exact Nat.ne_of_gt (blk_lt (g:=gb340) (o:=.cells #[.int .i64 a0_0,.int .i64 a0_1] 40 (0,0)) (by (with_reducible repeat first|apply b1_|apply b2_|apply b3_);exact BK340.out)) : gb373 ≠ gb340))
       have n9_:=m_ ((by rw [hg];exact Nat.ne_of_lt (blk_lt (g:=gb341) (o:=.cells #[.int .i64 a1_0,.int .i64 a1_1] 40 (0,0)) (by (with_reducible repeat first|apply b1_|apply b2_|apply b3_);exact BK341.out)) : gb341 ≠ gb373))
       have n10_:=m_ ((by rw [hg];exact Nat.ne_of_gt (blk_lt (g:=gb341) (o:=.cells #[.int .i64 a1_0,.int .i64 a1_1] 40 (0,0)) (by (with_reducible repeat first|apply b1_|apply b2_|apply b3_);exact BK341.out)) : gb373 ≠ gb341))
       have n11_:=m_ ((by rw [hg];exact Nat.ne_of_lt (blk_lt (g:=gb357) (o:=.cells #[.int .i64 t346,.int .i64 t347,.int .i64 t348,.int .i64 t349,.string t350,.string t351,.int .i64 t352,.int .i64 t353,.string t354,.string t355] 42 (0,0)) (by (with_reducible repeat first|apply b1_|apply b2_|apply b3_);exact BK357.out)) : gb357 ≠ gb373))
       have n12_:=m_ ((by rw [hg];exact Nat.ne_of_gt (blk_lt (g:=gb357) (o:=.cells #[.int .i64 t346,.int .i64 t347,.int .i64 t348,.int .i64 t349,.string t350,.string t351,.int .i64 t352,.int .i64 t353,.string t354,.string t355] 42 (0,0)) (by (with_reducible repeat first|apply b1_|apply b2_|apply b3_);exact BK357.out)) : gb373 ≠ gb357))
       clear BK340
       clear BK341
       clear BK357
       clear HB
       have BK340:=n0_
       have BK341:=n1_
       have BK357:=n2_
       have HB:=n3_
       have BK373:=n4_
       have GW373:=n5_
       have GE373:=n6_
       have NB340_373:=n7_
       have NB373_340:=n8_
       have NB341_373:=n9_
       have NB373_341:=n10_
       have NB357_373:=n11_
       have NB373_357:=n12_
       clear n0_ n1_ n2_ n3_ n4_ n5_ n6_ n7_ n8_ n9_ n10_ n11_ n12_
       clear hb hbox hg
       refine hK.out _ _ ⟨(c_ BK340.out 0).trans rfl,(c_ BK340.out 1).trans rfl,(c_ BK341.out 0).trans rfl,(c_ BK341.out 1).trans rfl⟩ (fun hHeld=>?_)
       clear hK K
       refine norm_ (a':=?_) ?_ ?_
       rotate_left
       ·show Act.put _ (some 11) _ = _
        simp only [Act.put,s1_,s2_,s3_,i64_w,i32_w]
        rfl
       exact norm_ (by simp only [putAll,Act.put,s1_,s2_,s3_]) (hCont (gb373) _ ⟨hHeld,(by (with_reducible repeat first|apply b1_|apply b2_|apply b3_);exact BK340.out),(by (with_reducible repeat first|apply b1_|apply b2_|apply b3_);exact BK341.out),(by (with_reducible repeat first|apply b1_|apply b2_|apply b3_);exact BK357.out),(by (with_reducible repeat first|apply b1_|apply b2_|apply b3_);exact BK373.out),GW373.out,GE373.out,NB340_373.out,NB373_340.out,NB341_373.out,NB373_341.out,NB357_373.out,NB373_357.out,(by repeat (first|(with_reducible first|exact HB.out|apply l1_|apply l2_|apply l3_|refine l4_ ?_ GE340.out|refine l4_ ?_ GE341.out|refine l4_ ?_ GE357.out|refine l4_ ?_ GE373.out)|exact HB.out))⟩)
      ·skip
       refine box_step ?hg (N:=11) ?hd (cs:=#[.int .i64 0,.int .i64 0,.int .i64 0,.int .i64 0,.string (⟨#[]⟩ : ByteArray),.string (⟨#[]⟩ : ByteArray),.int .i64 0,.int .i64 0,.string (⟨#[]⟩ : ByteArray),.string (⟨#[]⟩ : ByteArray)]) (t:=42) ?hr ?_;(case hd=>rfl);(case hg=>rfl);(case hr=>first|(go_simp;done)|(go_simp;rfl))
       intro gb373 hg w42 hbox hb
       have n0_:=m_ (blk_below (g:=gb340) (o:=.cells #[.int .i64 a0_0,.int .i64 a0_1] 40 (0,0)) (by (with_reducible repeat first|apply b1_|apply b2_|apply b3_);exact BK340.out) hb)
       have n1_:=m_ (blk_below (g:=gb341) (o:=.cells #[.int .i64 a1_0,.int .i64 a1_1] 40 (0,0)) (by (with_reducible repeat first|apply b1_|apply b2_|apply b3_);exact BK341.out) hb)
       have n2_:=m_ (blk_below (g:=gb357) (o:=.cells #[.int .i64 t346,.int .i64 t347,.int .i64 t348,.int .i64 t349,.string t350,.string t351,.int .i64 t352,.int .i64 t353,.string t354,.string t355] 42 (0,0)) (by (with_reducible repeat first|apply b1_|apply b2_|apply b3_);exact BK357.out) hb)
       have n3_:=m_ (l5_ (by repeat (first|(with_reducible first|exact HB.out|apply l1_|apply l2_|apply l3_|refine l4_ ?_ GE340.out|refine l4_ ?_ GE341.out|refine l4_ ?_ GE357.out)|exact HB.out)) hb)
       have n4_:=m_ (hbox)
       have n5_:=m_ ((by rw [hg];exact (l6_ (by repeat (first|(with_reducible first|exact HB.out|apply l1_|apply l2_|apply l3_|refine l4_ ?_ GE340.out|refine l4_ ?_ GE341.out|refine l4_ ?_ GE357.out)|exact HB.out))) : w.heap.size ≤ gb373))
       have n6_:=m_ ((by rw [hg];exact (l6_ (by repeat (first|(with_reducible first|exact HB.out|apply l1_|apply l2_|apply l3_|refine l4_ ?_ GE340.out|refine l4_ ?_ GE341.out|refine l4_ ?_ GE357.out)|exact HB.out))) : w.heap.size ≤ gb373))
       have n7_:=m_ ((by rw [hg];exact Nat.ne_of_lt (blk_lt (g:=gb340) (o:=.cells #[.int .i64 a0_0,.int .i64 a0_1] 40 (0,0)) (by (with_reducible repeat first|apply b1_|apply b2_|apply b3_);exact BK340.out)) : gb340 ≠ gb373))
       have n8_:=m_ ((by rw [hg];exact Nat.ne_of_gt (blk_lt (g:=gb340) (o:=.cells #[.int .i64 a0_0,.int .i64 a0_1] 40 (0,0)) (by (with_reducible repeat first|apply b1_|apply b2_|apply b3_);exact BK340.out)) : gb373 ≠ gb340))
       have n9_:=m_ ((by rw [hg];exact Nat.ne_of_lt (blk_lt (g:=gb341) (o:=.cells #[.int .i64 a1_0,.int .i64 a1_1] 40 (0,0)) (by (with_reducible repeat first|apply b1_|apply b2_|apply b3_);exact BK341.out)) : gb341 ≠ gb373))
       have n10_:=m_ ((by rw [hg];exact Nat.ne_of_gt (blk_lt (g:=gb341) (o:=.cells #[.int .i64 a1_0,.int .i64 a1_1] 40 (0,0)) (by (with_reducible repeat first|apply b1_|apply b2_|apply b3_);exact BK341.out)) : gb373 ≠ gb341))
       have n11_:=m_ ((by rw [hg];exact Nat.ne_of_lt (blk_lt (g:=gb357) (o:=.cells #[.int .i64 t346,.int .i64 t347,.int .i64 t348,.int .i64 t349,.string t350,.string t351,.int .i64 t352,.int .i64 t353,.string t354,.string t355] 42 (0,0)) (by (with_reducible repeat first|apply b1_|apply b2_|apply b3_);exact BK357.out)) : gb357 ≠ gb373))
       have n12_:=m_ ((by rw [hg];exact Nat.ne_of_gt (blk_lt (g:=gb357) (o:=.cells #[.int .i64 t346,.int .i64 t347,.int .i64 t348,.int .i64 t349,.string t350,.string t351,.int .i64 t352,.int .i64 t353,.string t354,.string t355] 42 (0,0)) (by (with_reducible repeat first|apply b1_|apply b2_|apply b3_);exact BK357.out)) : gb373 ≠ gb357))
       clear BK340
       clear BK341
       clear BK357
       clear HB
       have BK340:=n0_
       have BK341:=n1_
       have BK357:=n2_
       have HB:=n3_
       have BK373:=n4_
       have GW373:=n5_
       have GE373:=n6_
       have NB340_373:=n7_
       have NB373_340:=n8_
       have NB341_373:=n9_
       have NB373_341:=n10_
       have NB357_373:=n11_
       have NB373_357:=n12_
       clear n0_ n1_ n2_ n3_ n4_ n5_ n6_ n7_ n8_ n9_ n10_ n11_ n12_
       clear hb hbox hg
       refine hK.out _ _ ⟨(c_ BK340.out 0).trans rfl,(c_ BK340.out 1).trans rfl,(c_ BK341.out 0).trans rfl,(c_ BK341.out 1).trans rfl⟩ (fun hHeld=>?_)
       clear hK K
       refine norm_ (a':=?_) ?_ ?_
       rotate_left
       ·show Act.put _ (some 11) _ = _
        simp only [Act.put,s1_,s2_,s3_,i64_w,i32_w]
        rfl
       refine one_ (i:=6) (N:=some 36) #[true,true,true,true,true,true,true,false,false,false,true,false,false] rfl rfl (one_of HT_.out (by kernel_rfl)) (by decide) (fun K hK=>?_)
       refine goes_ Tryd.func30 (by kernel_rfl) rfl #[.agg #[.int .i64 t358,.int .i64 t359],.agg #[.int .i64 t360,.int .i64 t361],.string a2,.string a3] (by rfl) rfl rfl (by (try simp only [List.map_toArray,List.map_cons,List.map_nil]);first|done|rfl|(simp only [List.length_drop,List.length_take];rfl)) ?_
       with_reducible refine (impl_ConvNew.calls k t358 t359 t360 t361 a2 a3 t362 t363 t364 t365 t366 t367 t368 t369 t370 t371 t372 _ ?side1 A16.out).mono ?_
       (case side1=>first|exact HG.out|exact GV_below HG.out (by repeat (first|(with_reducible first|exact HB.out|apply l1_|apply l2_|apply l3_|refine l4_ ?_ GE340.out|refine l4_ ?_ GE341.out|refine l4_ ?_ GE357.out|refine l4_ ?_ GE373.out)|exact HB.out)))
       rintro e w43 ⟨rfl,hb⟩
       refine ⟨_,rfl,?_⟩
       have n0_:=m_ (blk_below (g:=gb340) (o:=.cells #[.int .i64 a0_0,.int .i64 a0_1] 40 (0,0)) (by (with_reducible repeat first|apply b1_|apply b2_|apply b3_);exact BK340.out) hb)
       have n1_:=m_ (blk_below (g:=gb341) (o:=.cells #[.int .i64 a1_0,.int .i64 a1_1] 40 (0,0)) (by (with_reducible repeat first|apply b1_|apply b2_|apply b3_);exact BK341.out) hb)
       have n2_:=m_ (blk_below (g:=gb357) (o:=.cells #[.int .i64 t346,.int .i64 t347,.int .i64 t348,.int .i64 t349,.string t350,.string t351,.int .i64 t352,.int .i64 t353,.string t354,.string t355] 42 (0,0)) (by (with_reducible repeat first|apply b1_|apply b2_|apply b3_);exact BK357.out) hb)
       have n3_:=m_ (blk_below (g:=gb373) (o:=.cells #[.int .i64 0,.int .i64 0,.int .i64 0,.int .i64 0,.string (⟨#[]⟩ : ByteArray),.string (⟨#[]⟩ : ByteArray),.int .i64 0,.int .i64 0,.string (⟨#[]⟩ : ByteArray),.string (⟨#[]⟩ : ByteArray)] 42 (0,0)) (by (with_reducible repeat first|apply b1_|apply b2_|apply b3_);exact BK373.out) hb)
       have n4_:=m_ (l5_ (by repeat (first|(with_reducible first|exact HB.out|apply l1_|apply l2_|apply l3_|refine l4_ ?_ GE340.out|refine l4_ ?_ GE341.out|refine l4_ ?_ GE357.out|refine l4_ ?_ GE373.out)|exact HB.out)) hb)
       clear BK340
       clear BK341
       clear BK357
       clear BK373
       clear HB
       have BK340:=n0_
       have BK341:=n1_
       have BK357:=n2_
       have BK373:=n3_
       have HB:=n4_
       clear n0_ n1_ n2_ n3_ n4_
       (try clear hb)
       (try clear hb2)
       (try clear hk)
       (try clear hi)
       refine hK.out _ _ ⟨(c_ BK340.out 0).trans rfl,(c_ BK340.out 1).trans rfl,(c_ BK341.out 0).trans rfl,(c_ BK341.out 1).trans rfl⟩ (fun hHeld=>?_)
       clear hK K
       refine norm_ (a':=?_) ?_ ?_
       rotate_left
       ·show Act.put _ (some 36) _ = _
        simp only [Act.put,s1_,s2_,s3_,i64_w,i32_w]
        rfl
       refine pure_ (i:=7) (N:=some 29) (v:=?_) (a':=?_) #[true,true,true,true,true,true,true,true,false,false,true,false,false] rfl rfl (any_of HT_.out (by kernel_rfl)) (fun _ _ _ h=>h) (Or.inl ⟨by rfl,?_⟩) ?_ ?_
       rotate_left
       ·intro w'
        go_simp
        with_reducible rfl
       rotate_left
       ·simp only [Act.put,s1_,s2_,s3_,i64_w,i32_w]
        rfl
       refine pure_ (i:=8) (N:=some 37) (v:=?_) (a':=?_) #[true,true,true,true,true,true,true,true,true,false,true,false,false] rfl rfl (any_of HT_.out (by kernel_rfl)) (fun _ _ _ h=>h) (Or.inl ⟨by rfl,?_⟩) ?_ ?_
       rotate_left
       ·intro w'
        go_simp
        with_reducible rfl
       rotate_left
       ·simp only [Act.put,s1_,s2_,s3_,i64_w,i32_w]
        rfl
       refine pure_ (i:=9) (N:=some 38) (v:=?_) (a':=?_) #[true,true,true,true,true,true,true,true,true,true,true,false,false] rfl rfl (any_of HT_.out (by kernel_rfl)) (fun _ _ _ h=>h) (Or.inl ⟨by rfl,?_⟩) ?_ ?_
       rotate_left
       ·intro w'
        go_simp
        with_reducible rfl
       rotate_left
       ·simp only [Act.put,s1_,s2_,s3_,i64_w,i32_w]
        rfl
       exact norm_ (by simp only [putAll,Act.put,s1_,s2_,s3_]) (hCont (gb373) _ ⟨hHeld,(by (with_reducible repeat first|apply b1_|apply b2_|apply b3_);exact BK340.out),(by (with_reducible repeat first|apply b1_|apply b2_|apply b3_);exact BK341.out),(by (with_reducible repeat first|apply b1_|apply b2_|apply b3_);exact BK357.out),(by (with_reducible repeat first|apply b1_|apply b2_|apply b3_);exact BK373.out),GW373.out,GE373.out,NB340_373.out,NB373_340.out,NB341_373.out,NB373_341.out,NB357_373.out,NB373_357.out,(by repeat (first|(with_reducible first|exact HB.out|apply l1_|apply l2_|apply l3_|refine l4_ ?_ GE340.out|refine l4_ ?_ GE341.out|refine l4_ ?_ GE357.out|refine l4_ ?_ GE373.out)|exact HB.out))⟩)
     ·skip
      refine box_step ?hg (N:=11) ?hd (cs:=#[.int .i64 0,.int .i64 0,.int .i64 0,.int .i64 0,.string (⟨#[]⟩ : ByteArray),.string (⟨#[]⟩ : ByteArray),.int .i64 0,.int .i64 0,.string (⟨#[]⟩ : ByteArray),.string (⟨#[]⟩ : ByteArray)]) (t:=42) ?hr ?_;(case hd=>rfl);(case hg=>rfl);(case hr=>first|(go_simp;done)|(go_simp;rfl))
      intro gb373 hg w41 hbox hb
      have n0_:=m_ (blk_below (g:=gb340) (o:=.cells #[.int .i64 a0_0,.int .i64 a0_1] 40 (0,0)) (by (with_reducible repeat first|apply b1_|apply b2_|apply b3_);exact BK340.out) hb)
      have n1_:=m_ (blk_below (g:=gb341) (o:=.cells #[.int .i64 a1_0,.int .i64 a1_1] 40 (0,0)) (by (with_reducible repeat first|apply b1_|apply b2_|apply b3_);exact BK341.out) hb)
      have n2_:=m_ (blk_below (g:=gb357) (o:=.cells #[.int .i64 t346,.int .i64 t347,.int .i64 t348,.int .i64 t349,.string t350,.string t351,.int .i64 t352,.int .i64 t353,.string t354,.string t355] 42 (0,0)) (by (with_reducible repeat first|apply b1_|apply b2_|apply b3_);exact BK357.out) hb)
      have n3_:=m_ (l5_ (by repeat (first|(with_reducible first|exact HB.out|apply l1_|apply l2_|apply l3_|refine l4_ ?_ GE340.out|refine l4_ ?_ GE341.out|refine l4_ ?_ GE357.out)|exact HB.out)) hb)
      have n4_:=m_ (hbox)
      have n5_:=m_ ((by rw [hg];exact (l6_ (by repeat (first|(with_reducible first|exact HB.out|apply l1_|apply l2_|apply l3_|refine l4_ ?_ GE340.out|refine l4_ ?_ GE341.out|refine l4_ ?_ GE357.out)|exact HB.out))) : w.heap.size ≤ gb373))
      have n6_:=m_ ((by rw [hg];exact (l6_ (by repeat (first|(with_reducible first|exact HB.out|apply l1_|apply l2_|apply l3_|refine l4_ ?_ GE340.out|refine l4_ ?_ GE341.out|refine l4_ ?_ GE357.out)|exact HB.out))) : w.heap.size ≤ gb373))
      have n7_:=m_ ((by rw [hg];exact Nat.ne_of_lt (blk_lt (g:=gb340) (o:=.cells #[.int .i64 a0_0,.int .i64 a0_1] 40 (0,0)) (by (with_reducible repeat first|apply b1_|apply b2_|apply b3_);exact BK340.out)) : gb340 ≠ gb373))
      have n8_:=m_ ((by rw [hg];exact Nat.ne_of_gt (blk_lt (g:=gb340) (o:=.cells #[.int .i64 a0_0,.int .i64 a0_1] 40 (0,0)) (by (with_reducible repeat first|apply b1_|apply b2_|apply b3_);exact BK340.out)) : gb373 ≠ gb340))
      have n9_:=m_ ((by rw [hg];exact Nat.ne_of_lt (blk_lt (g:=gb341) (o:=.cells #[.int .i64 a1_0,.int .i64 a1_1] 40 (0,0)) (by (with_reducible repeat first|apply b1_|apply b2_|apply b3_);exact BK341.out)) : gb341 ≠ gb373))
      have n10_:=m_ ((by rw [hg];exact Nat.ne_of_gt (blk_lt (g:=gb341) (o:=.cells #[.int .i64 a1_0,.int .i64 a1_1] 40 (0,0)) (by (with_reducible repeat first|apply b1_|apply b2_|apply b3_);exact BK341.out)) : gb373 ≠ gb341))
      have n11_:=m_ ((by rw [hg];exact Nat.ne_of_lt (blk_lt (g:=gb357) (o:=.cells #[.int .i64 t346,.int .i64 t347,.int .i64 t348,.int .i64 t349,.string t350,.string t351,.int .i64 t352,.int .i64 t353,.string t354,.string t355] 42 (0,0)) (by (with_reducible repeat first|apply b1_|apply b2_|apply b3_);exact BK357.out)) : gb357 ≠ gb373))
      have n12_:=m_ ((by rw [hg];exact Nat.ne_of_gt (blk_lt (g:=gb357) (o:=.cells #[.int .i64 t346,.int .i64 t347,.int .i64 t348,.int .i64 t349,.string t350,.string t351,.int .i64 t352,.int .i64 t353,.string t354,.string t355] 42 (0,0)) (by (with_reducible repeat first|apply b1_|apply b2_|apply b3_);exact BK357.out)) : gb373 ≠ gb357))
      clear BK340
      clear BK341
      clear BK357
      clear HB
      have BK340:=n0_
      have BK341:=n1_
      have BK357:=n2_
      have HB:=n3_
      have BK373:=n4_
      have GW373:=n5_
      have GE373:=n6_
      have NB340_373:=n7_
      have NB373_340:=n8_
      have NB341_373:=n9_
      have NB373_341:=n10_
      have NB357_373:=n11_
      have NB373_357:=n12_
      clear n0_ n1_ n2_ n3_ n4_ n5_ n6_ n7_ n8_ n9_ n10_ n11_ n12_
      clear hb hbox hg
      refine hK.out _ _ ⟨(c_ BK340.out 0).trans rfl,(c_ BK340.out 1).trans rfl,(c_ BK341.out 0).trans rfl,(c_ BK341.out 1).trans rfl⟩ (fun hHeld=>?_)
      clear hK K
      refine norm_ (a':=?_) ?_ ?_
      rotate_left
      ·show Act.put _ (some 11) _ = _
       simp only [Act.put,s1_,s2_,s3_,i64_w,i32_w]
       rfl
      refine one_ (i:=3) (N:=some 33) #[true,true,true,true,true,true,false,false,false,false,true,false,false] rfl rfl (one_of HT_.out (by kernel_rfl)) (by decide) (fun K hK=>?_)
      refine goes_ Tryd.func29 (by kernel_rfl) rfl #[.agg #[.int .i64 a1_0,.int .i64 a1_1]] (by rfl) rfl rfl (by (try simp only [List.map_toArray,List.map_cons,List.map_nil]);first|done|rfl|(simp only [List.length_drop,List.length_take];rfl)) ?_
      with_reducible refine (laws_toEnd.calls a1_0 a1_1 t360 t361 _ A15.out).mono ?_
      rintro e w42 ⟨rfl,hb⟩
      refine ⟨_,rfl,?_⟩
      have n0_:=m_ (blk_below (g:=gb340) (o:=.cells #[.int .i64 a0_0,.int .i64 a0_1] 40 (0,0)) (by (with_reducible repeat first|apply b1_|apply b2_|apply b3_);exact BK340.out) hb)
      have n1_:=m_ (blk_below (g:=gb341) (o:=.cells #[.int .i64 a1_0,.int .i64 a1_1] 40 (0,0)) (by (with_reducible repeat first|apply b1_|apply b2_|apply b3_);exact BK341.out) hb)
      have n2_:=m_ (blk_below (g:=gb357) (o:=.cells #[.int .i64 t346,.int .i64 t347,.int .i64 t348,.int .i64 t349,.string t350,.string t351,.int .i64 t352,.int .i64 t353,.string t354,.string t355] 42 (0,0)) (by (with_reducible repeat first|apply b1_|apply b2_|apply b3_);exact BK357.out) hb)
      have n3_:=m_ (blk_below (g:=gb373) (o:=.cells #[.int .i64 0,.int .i64 0,.int .i64 0,.int .i64 0,.string (⟨#[]⟩ : ByteArray),.string (⟨#[]⟩ : ByteArray),.int .i64 0,.int .i64 0,.string (⟨#[]⟩ : ByteArray),.string (⟨#[]⟩ : ByteArray)] 42 (0,0)) (by (with_reducible repeat first|apply b1_|apply b2_|apply b3_);exact BK373.out) hb)
      have n4_:=m_ (l5_ (by repeat (first|(with_reducible first|exact HB.out|apply l1_|apply l2_|apply l3_|refine l4_ ?_ GE340.out|refine l4_ ?_ GE341.out|refine l4_ ?_ GE357.out|refine l4_ ?_ GE373.out)|exact HB.out)) hb)
      clear BK340
      clear BK341
      clear BK357
      clear BK373
      clear HB
      have BK340:=n0_
      have BK341:=n1_
      have BK357:=n2_
      have BK373:=n3_
      have HB:=n4_
      clear n0_ n1_ n2_ n3_ n4_
      (try clear hb)
      (try clear hb2)
      (try clear hk)
      (try clear hi)
      refine hK.out _ _ ⟨(c_ BK340.out 0).trans rfl,(c_ BK340.out 1).trans rfl,(c_ BK341.out 0).trans rfl,(c_ BK341.out 1).trans rfl⟩ (fun hHeld=>?_)
      clear hK K
      refine norm_ (a':=?_) ?_ ?_
      rotate_left
      ·show Act.put _ (some 33) _ = _
       simp only [Act.put,s1_,s2_,s3_,i64_w,i32_w]
       rfl
      refine one_ (i:=6) (N:=some 36) #[true,true,true,true,true,true,true,false,false,false,true,false,false] rfl rfl (one_of HT_.out (by kernel_rfl)) (by decide) (fun K hK=>?_)
      refine goes_ Tryd.func30 (by kernel_rfl) rfl #[.agg #[.int .i64 t358,.int .i64 t359],.agg #[.int .i64 t360,.int .i64 t361],.string a2,.string a3] (by rfl) rfl rfl (by (try simp only [List.map_toArray,List.map_cons,List.map_nil]);first|done|rfl|(simp only [List.length_drop,List.length_take];rfl)) ?_
      with_reducible refine (impl_ConvNew.calls k t358 t359 t360 t361 a2 a3 t362 t363 t364 t365 t366 t367 t368 t369 t370 t371 t372 _ ?side1 A16.out).mono ?_
      (case side1=>first|exact HG.out|exact GV_below HG.out (by repeat (first|(with_reducible first|exact HB.out|apply l1_|apply l2_|apply l3_|refine l4_ ?_ GE340.out|refine l4_ ?_ GE341.out|refine l4_ ?_ GE357.out|refine l4_ ?_ GE373.out)|exact HB.out)))
      rintro e w43 ⟨rfl,hb⟩
      refine ⟨_,rfl,?_⟩
      have n0_:=m_ (blk_below (g:=gb340) (o:=.cells #[.int .i64 a0_0,.int .i64 a0_1] 40 (0,0)) (by (with_reducible repeat first|apply b1_|apply b2_|apply b3_);exact BK340.out) hb)
      have n1_:=m_ (blk_below (g:=gb341) (o:=.cells #[.int .i64 a1_0,.int .i64 a1_1] 40 (0,0)) (by (with_reducible repeat first|apply b1_|apply b2_|apply b3_);exact BK341.out) hb)
      have n2_:=m_ (blk_below (g:=gb357) (o:=.cells #[.int .i64 t346,.int .i64 t347,.int .i64 t348,.int .i64 t349,.string t350,.string t351,.int .i64 t352,.int .i64 t353,.string t354,.string t355] 42 (0,0)) (by (with_reducible repeat first|apply b1_|apply b2_|apply b3_);exact BK357.out) hb)
      have n3_:=m_ (blk_below (g:=gb373) (o:=.cells #[.int .i64 0,.int .i64 0,.int .i64 0,.int .i64 0,.string (⟨#[]⟩ : ByteArray),.string (⟨#[]⟩ : ByteArray),.int .i64 0,.int .i64 0,.string (⟨#[]⟩ : ByteArray),.string (⟨#[]⟩ : ByteArray)] 42 (0,0)) (by (with_reducible repeat first|apply b1_|apply b2_|apply b3_);exact BK373.out) hb)
      have n4_:=m_ (l5_ (by repeat (first|(with_reducible first|exact HB.out|apply l1_|apply l2_|apply l3_|refine l4_ ?_ GE340.out|refine l4_ ?_ GE341.out|refine l4_ ?_ GE357.out|refine l4_ ?_ GE373.out)|exact HB.out)) hb)
      clear BK340
      clear BK341
      clear BK357
      clear BK373
      clear HB
      have BK340:=n0_
      have BK341:=n1_
      have BK357:=n2_
      have BK373:=n3_
      have HB:=n4_
      clear n0_ n1_ n2_ n3_ n4_
      (try clear hb)
      (try clear hb2)
      (try clear hk)
      (try clear hi)
      refine hK.out _ _ ⟨(c_ BK340.out 0).trans rfl,(c_ BK340.out 1).trans rfl,(c_ BK341.out 0).trans rfl,(c_ BK341.out 1).trans rfl⟩ (fun hHeld=>?_)
      clear hK K
      refine norm_ (a':=?_) ?_ ?_
      rotate_left
      ·show Act.put _ (some 36) _ = _
       simp only [Act.put,s1_,s2_,s3_,i64_w,i32_w]
       rfl
      refine pure_ (i:=7) (N:=some 29) (v:=?_) (a':=?_) #[true,true,true,true,true,true,true,true,false,false,true,false,false] rfl rfl (any_of HT_.out (by kernel_rfl)) (fun _ _ _ h=>h) (Or.inl ⟨by rfl,?_⟩) ?_ ?_
      rotate_left
      ·intro w'
       go_simp
       with_reducible rfl
      rotate_left
      ·simp only [Act.put,s1_,s2_,s3_,i64_w,i32_w]
       rfl
      refine pure_ (i:=8) (N:=some 37) (v:=?_) (a':=?_) #[true,true,true,true,true,true,true,true,true,false,true,false,false] rfl rfl (any_of HT_.out (by kernel_rfl)) (fun _ _ _ h=>h) (Or.inl ⟨by rfl,?_⟩) ?_ ?_
      rotate_left
      ·intro w'
       go_simp
       with_reducible rfl
      rotate_left
      ·simp only [Act.put,s1_,s2_,s3_,i64_w,i32_w]
       rfl
      refine pure_ (i:=9) (N:=some 38) (v:=?_) (a':=?_) #[true,true,true,true,true,true,true,true,true,true,true,false,false] rfl rfl (any_of HT_.out (by kernel_rfl)) (fun _ _ _ h=>h) (Or.inl ⟨by rfl,?_⟩) ?_ ?_
      rotate_left
      ·intro w'
       go_simp
       with_reducible rfl
      rotate_left
      ·simp only [Act.put,s1_,s2_,s3_,i64_w,i32_w]
       rfl
      exact norm_ (by simp only [putAll,Act.put,s1_,s2_,s3_]) (hCont (gb373) _ ⟨hHeld,(by (with_reducible repeat first|apply b1_|apply b2_|apply b3_);exact BK340.out),(by (with_reducible repeat first|apply b1_|apply b2_|apply b3_);exact BK341.out),(by (with_reducible repeat first|apply b1_|apply b2_|apply b3_);exact BK357.out),(by (with_reducible repeat first|apply b1_|apply b2_|apply b3_);exact BK373.out),GW373.out,GE373.out,NB340_373.out,NB373_340.out,NB341_373.out,NB373_341.out,NB357_373.out,NB373_357.out,(by repeat (first|(with_reducible first|exact HB.out|apply l1_|apply l2_|apply l3_|refine l4_ ?_ GE340.out|refine l4_ ?_ GE341.out|refine l4_ ?_ GE357.out|refine l4_ ?_ GE373.out)|exact HB.out))⟩)
    ·skip
     refine box_step ?hg (N:=11) ?hd (cs:=#[.int .i64 0,.int .i64 0,.int .i64 0,.int .i64 0,.string (⟨#[]⟩ : ByteArray),.string (⟨#[]⟩ : ByteArray),.int .i64 0,.int .i64 0,.string (⟨#[]⟩ : ByteArray),.string (⟨#[]⟩ : ByteArray)]) (t:=42) ?hr ?_;(case hd=>rfl);(case hg=>rfl);(case hr=>first|(go_simp;done)|(go_simp;rfl))
     intro gb373 hg w40 hbox hb
     have n0_:=m_ (blk_below (g:=gb340) (o:=.cells #[.int .i64 a0_0,.int .i64 a0_1] 40 (0,0)) (by (with_reducible repeat first|apply b1_|apply b2_|apply b3_);exact BK340.out) hb)
     have n1_:=m_ (blk_below (g:=gb341) (o:=.cells #[.int .i64 a1_0,.int .i64 a1_1] 40 (0,0)) (by (with_reducible repeat first|apply b1_|apply b2_|apply b3_);exact BK341.out) hb)
     have n2_:=m_ (blk_below (g:=gb357) (o:=.cells #[.int .i64 t346,.int .i64 t347,.int .i64 t348,.int .i64 t349,.string t350,.string t351,.int .i64 t352,.int .i64 t353,.string t354,.string t355] 42 (0,0)) (by (with_reducible repeat first|apply b1_|apply b2_|apply b3_);exact BK357.out) hb)
     have n3_:=m_ (l5_ (by repeat (first|(with_reducible first|exact HB.out|apply l1_|apply l2_|apply l3_|refine l4_ ?_ GE340.out|refine l4_ ?_ GE341.out|refine l4_ ?_ GE357.out)|exact HB.out)) hb)
     have n4_:=m_ (hbox)
     have n5_:=m_ ((by rw [hg];exact (l6_ (by repeat (first|(with_reducible first|exact HB.out|apply l1_|apply l2_|apply l3_|refine l4_ ?_ GE340.out|refine l4_ ?_ GE341.out|refine l4_ ?_ GE357.out)|exact HB.out))) : w.heap.size ≤ gb373))
     have n6_:=m_ ((by rw [hg];exact (l6_ (by repeat (first|(with_reducible first|exact HB.out|apply l1_|apply l2_|apply l3_|refine l4_ ?_ GE340.out|refine l4_ ?_ GE341.out|refine l4_ ?_ GE357.out)|exact HB.out))) : w.heap.size ≤ gb373))
     have n7_:=m_ ((by rw [hg];exact Nat.ne_of_lt (blk_lt (g:=gb340) (o:=.cells #[.int .i64 a0_0,.int .i64 a0_1] 40 (0,0)) (by (with_reducible repeat first|apply b1_|apply b2_|apply b3_);exact BK340.out)) : gb340 ≠ gb373))
     have n8_:=m_ ((by rw [hg];exact Nat.ne_of_gt (blk_lt (g:=gb340) (o:=.cells #[.int .i64 a0_0,.int .i64 a0_1] 40 (0,0)) (by (with_reducible repeat first|apply b1_|apply b2_|apply b3_);exact BK340.out)) : gb373 ≠ gb340))
     have n9_:=m_ ((by rw [hg];exact Nat.ne_of_lt (blk_lt (g:=gb341) (o:=.cells #[.int .i64 a1_0,.int .i64 a1_1] 40 (0,0)) (by (with_reducible repeat first|apply b1_|apply b2_|apply b3_);exact BK341.out)) : gb341 ≠ gb373))
     have n10_:=m_ ((by rw [hg];exact Nat.ne_of_gt (blk_lt (g:=gb341) (o:=.cells #[.int .i64 a1_0,.int .i64 a1_1] 40 (0,0)) (by (with_reducible repeat first|apply b1_|apply b2_|apply b3_);exact BK341.out)) : gb373 ≠ gb341))
     have n11_:=m_ ((by rw [hg];exact Nat.ne_of_lt (blk_lt (g:=gb357) (o:=.cells #[.int .i64 t346,.int .i64 t347,.int .i64 t348,.int .i64 t349,.string t350,.string t351,.int .i64 t352,.int .i64 t353,.string t354,.string t355] 42 (0,0)) (by (with_reducible repeat first|apply b1_|apply b2_|apply b3_);exact BK357.out)) : gb357 ≠ gb373))
     have n12_:=m_ ((by rw [hg];exact Nat.ne_of_gt (blk_lt (g:=gb357) (o:=.cells #[.int .i64 t346,.int .i64 t347,.int .i64 t348,.int .i64 t349,.string t350,.string t351,.int .i64 t352,.int .i64 t353,.string t354,.string t355] 42 (0,0)) (by (with_reducible repeat first|apply b1_|apply b2_|apply b3_);exact BK357.out)) : gb373 ≠ gb357))
     clear BK340
     clear BK341
     clear BK357
     clear HB
     have BK340:=n0_
     have BK341:=n1_
     have BK357:=n2_
     have HB:=n3_
     have BK373:=n4_
     have GW373:=n5_
     have GE373:=n6_
     have NB340_373:=n7_
     have NB373_340:=n8_
     have NB341_373:=n9_
     have NB373_341:=n10_
     have NB357_373:=n11_
     have NB373_357:=n12_
     clear n0_ n1_ n2_ n3_ n4_ n5_ n6_ n7_ n8_ n9_ n10_ n11_ n12_
     clear hb hbox hg
     refine hK.out _ _ ⟨(c_ BK340.out 0).trans rfl,(c_ BK340.out 1).trans rfl,(c_ BK341.out 0).trans rfl,(c_ BK341.out 1).trans rfl⟩ (fun hHeld=>?_)
     clear hK K
     refine norm_ (a':=?_) ?_ ?_
     rotate_left
     ·show Act.put _ (some 11) _ = _
      simp only [Act.put,s1_,s2_,s3_,i64_w,i32_w]
      rfl
     refine one_ (i:=1) (N:=some 31) #[true,true,true,false,true,true,false,false,false,false,true,false,false] rfl rfl (one_of HT_.out (by kernel_rfl)) (by decide) (fun K hK=>?_)
     refine goes_ Tryd.func29 (by kernel_rfl) rfl #[.agg #[.int .i64 a0_0,.int .i64 a0_1]] (by rfl) rfl rfl (by (try simp only [List.map_toArray,List.map_cons,List.map_nil]);first|done|rfl|(simp only [List.length_drop,List.length_take];rfl)) ?_
     with_reducible refine (laws_toEnd.calls a0_0 a0_1 t358 t359 _ A14.out).mono ?_
     rintro e w41 ⟨rfl,hb⟩
     refine ⟨_,rfl,?_⟩
     have n0_:=m_ (blk_below (g:=gb340) (o:=.cells #[.int .i64 a0_0,.int .i64 a0_1] 40 (0,0)) (by (with_reducible repeat first|apply b1_|apply b2_|apply b3_);exact BK340.out) hb)
     have n1_:=m_ (blk_below (g:=gb341) (o:=.cells #[.int .i64 a1_0,.int .i64 a1_1] 40 (0,0)) (by (with_reducible repeat first|apply b1_|apply b2_|apply b3_);exact BK341.out) hb)
     have n2_:=m_ (blk_below (g:=gb357) (o:=.cells #[.int .i64 t346,.int .i64 t347,.int .i64 t348,.int .i64 t349,.string t350,.string t351,.int .i64 t352,.int .i64 t353,.string t354,.string t355] 42 (0,0)) (by (with_reducible repeat first|apply b1_|apply b2_|apply b3_);exact BK357.out) hb)
     have n3_:=m_ (blk_below (g:=gb373) (o:=.cells #[.int .i64 0,.int .i64 0,.int .i64 0,.int .i64 0,.string (⟨#[]⟩ : ByteArray),.string (⟨#[]⟩ : ByteArray),.int .i64 0,.int .i64 0,.string (⟨#[]⟩ : ByteArray),.string (⟨#[]⟩ : ByteArray)] 42 (0,0)) (by (with_reducible repeat first|apply b1_|apply b2_|apply b3_);exact BK373.out) hb)
     have n4_:=m_ (l5_ (by repeat (first|(with_reducible first|exact HB.out|apply l1_|apply l2_|apply l3_|refine l4_ ?_ GE340.out|refine l4_ ?_ GE341.out|refine l4_ ?_ GE357.out|refine l4_ ?_ GE373.out)|exact HB.out)) hb)
     clear BK340
     clear BK341
     clear BK357
     clear BK373
     clear HB
     have BK340:=n0_
     have BK341:=n1_
     have BK357:=n2_
     have BK373:=n3_
     have HB:=n4_
     clear n0_ n1_ n2_ n3_ n4_
     (try clear hb)
     (try clear hb2)
     (try clear hk)
     (try clear hi)
     refine hK.out _ _ ⟨(c_ BK340.out 0).trans rfl,(c_ BK340.out 1).trans rfl,(c_ BK341.out 0).trans rfl,(c_ BK341.out 1).trans rfl⟩ (fun hHeld=>?_)
     clear hK K
     refine norm_ (a':=?_) ?_ ?_
     rotate_left
     ·show Act.put _ (some 31) _ = _
      simp only [Act.put,s1_,s2_,s3_,i64_w,i32_w]
      rfl
     refine one_ (i:=3) (N:=some 33) #[true,true,true,true,true,true,false,false,false,false,true,false,false] rfl rfl (one_of HT_.out (by kernel_rfl)) (by decide) (fun K hK=>?_)
     refine goes_ Tryd.func29 (by kernel_rfl) rfl #[.agg #[.int .i64 a1_0,.int .i64 a1_1]] (by rfl) rfl rfl (by (try simp only [List.map_toArray,List.map_cons,List.map_nil]);first|done|rfl|(simp only [List.length_drop,List.length_take];rfl)) ?_
     with_reducible refine (laws_toEnd.calls a1_0 a1_1 t360 t361 _ A15.out).mono ?_
     rintro e w42 ⟨rfl,hb⟩
     refine ⟨_,rfl,?_⟩
     have n0_:=m_ (blk_below (g:=gb340) (o:=.cells #[.int .i64 a0_0,.int .i64 a0_1] 40 (0,0)) (by (with_reducible repeat first|apply b1_|apply b2_|apply b3_);exact BK340.out) hb)
     have n1_:=m_ (blk_below (g:=gb341) (o:=.cells #[.int .i64 a1_0,.int .i64 a1_1] 40 (0,0)) (by (with_reducible repeat first|apply b1_|apply b2_|apply b3_);exact BK341.out) hb)
     have n2_:=m_ (blk_below (g:=gb357) (o:=.cells #[.int .i64 t346,.int .i64 t347,.int .i64 t348,.int .i64 t349,.string t350,.string t351,.int .i64 t352,.int .i64 t353,.string t354,.string t355] 42 (0,0)) (by (with_reducible repeat first|apply b1_|apply b2_|apply b3_);exact BK357.out) hb)
     have n3_:=m_ (blk_below (g:=gb373) (o:=.cells #[.int .i64 0,.int .i64 0,.int .i64 0,.int .i64 0,.string (⟨#[]⟩ : ByteArray),.string (⟨#[]⟩ : ByteArray),.int .i64 0,.int .i64 0,.string (⟨#[]⟩ : ByteArray),.string (⟨#[]⟩ : ByteArray)] 42 (0,0)) (by (with_reducible repeat first|apply b1_|apply b2_|apply b3_);exact BK373.out) hb)
     have n4_:=m_ (l5_ (by repeat (first|(with_reducible first|exact HB.out|apply l1_|apply l2_|apply l3_|refine l4_ ?_ GE340.out|refine l4_ ?_ GE341.out|refine l4_ ?_ GE357.out|refine l4_ ?_ GE373.out)|exact HB.out)) hb)
     clear BK340
     clear BK341
     clear BK357
     clear BK373
     clear HB
     have BK340:=n0_
     have BK341:=n1_
     have BK357:=n2_
     have BK373:=n3_
     have HB:=n4_
     clear n0_ n1_ n2_ n3_ n4_
     (try clear hb)
     (try clear hb2)
     (try clear hk)
     (try clear hi)
     refine hK.out _ _ ⟨(c_ BK340.out 0).trans rfl,(c_ BK340.out 1).trans rfl,(c_ BK341.out 0).trans rfl,(c_ BK341.out 1).trans rfl⟩ (fun hHeld=>?_)
     clear hK K
     refine norm_ (a':=?_) ?_ ?_
     rotate_left
     ·show Act.put _ (some 33) _ = _
      simp only [Act.put,s1_,s2_,s3_,i64_w,i32_w]
      rfl
     refine one_ (i:=6) (N:=some 36) #[true,true,true,true,true,true,true,false,false,false,true,false,false] rfl rfl (one_of HT_.out (by kernel_rfl)) (by decide) (fun K hK=>?_)
     refine goes_ Tryd.func30 (by kernel_rfl) rfl #[.agg #[.int .i64 t358,.int .i64 t359],.agg #[.int .i64 t360,.int .i64 t361],.string a2,.string a3] (by rfl) rfl rfl (by (try simp only [List.map_toArray,List.map_cons,List.map_nil]);first|done|rfl|(simp only [List.length_drop,List.length_take];rfl)) ?_
     with_reducible refine (impl_ConvNew.calls k t358 t359 t360 t361 a2 a3 t362 t363 t364 t365 t366 t367 t368 t369 t370 t371 t372 _ ?side1 A16.out).mono ?_
     (case side1=>first|exact HG.out|exact GV_below HG.out (by repeat (first|(with_reducible first|exact HB.out|apply l1_|apply l2_|apply l3_|refine l4_ ?_ GE340.out|refine l4_ ?_ GE341.out|refine l4_ ?_ GE357.out|refine l4_ ?_ GE373.out)|exact HB.out)))
     rintro e w43 ⟨rfl,hb⟩
     refine ⟨_,rfl,?_⟩
     have n0_:=m_ (blk_below (g:=gb340) (o:=.cells #[.int .i64 a0_0,.int .i64 a0_1] 40 (0,0)) (by (with_reducible repeat first|apply b1_|apply b2_|apply b3_);exact BK340.out) hb)
     have n1_:=m_ (blk_below (g:=gb341) (o:=.cells #[.int .i64 a1_0,.int .i64 a1_1] 40 (0,0)) (by (with_reducible repeat first|apply b1_|apply b2_|apply b3_);exact BK341.out) hb)
     have n2_:=m_ (blk_below (g:=gb357) (o:=.cells #[.int .i64 t346,.int .i64 t347,.int .i64 t348,.int .i64 t349,.string t350,.string t351,.int .i64 t352,.int .i64 t353,.string t354,.string t355] 42 (0,0)) (by (with_reducible repeat first|apply b1_|apply b2_|apply b3_);exact BK357.out) hb)
     have n3_:=m_ (blk_below (g:=gb373) (o:=.cells #[.int .i64 0,.int .i64 0,.int .i64 0,.int .i64 0,.string (⟨#[]⟩ : ByteArray),.string (⟨#[]⟩ : ByteArray),.int .i64 0,.int .i64 0,.string (⟨#[]⟩ : ByteArray),.string (⟨#[]⟩ : ByteArray)] 42 (0,0)) (by (with_reducible repeat first|apply b1_|apply b2_|apply b3_);exact BK373.out) hb)
     have n4_:=m_ (l5_ (by repeat (first|(with_reducible first|exact HB.out|apply l1_|apply l2_|apply l3_|refine l4_ ?_ GE340.out|refine l4_ ?_ GE341.out|refine l4_ ?_ GE357.out|refine l4_ ?_ GE373.out)|exact HB.out)) hb)
     clear BK340
     clear BK341
     clear BK357
     clear BK373
     clear HB
     have BK340:=n0_
     have BK341:=n1_
     have BK357:=n2_
     have BK373:=n3_
     have HB:=n4_
     clear n0_ n1_ n2_ n3_ n4_
     (try clear hb)
     (try clear hb2)
     (try clear hk)
     (try clear hi)
     refine hK.out _ _ ⟨(c_ BK340.out 0).trans rfl,(c_ BK340.out 1).trans rfl,(c_ BK341.out 0).trans rfl,(c_ BK341.out 1).trans rfl⟩ (fun hHeld=>?_)
     clear hK K
     refine norm_ (a':=?_) ?_ ?_
     rotate_left
     ·show Act.put _ (some 36) _ = _
      simp only [Act.put,s1_,s2_,s3_,i64_w,i32_w]
      rfl
     refine pure_ (i:=7) (N:=some 29) (v:=?_) (a':=?_) #[true,true,true,true,true,true,true,true,false,false,true,false,false] rfl rfl (any_of HT_.out (by kernel_rfl)) (fun _ _ _ h=>h) (Or.inl ⟨by rfl,?_⟩) ?_ ?_
     rotate_left
     ·intro w'
      go_simp
      with_reducible rfl
     rotate_left
     ·simp only [Act.put,s1_,s2_,s3_,i64_w,i32_w]
      rfl
     refine pure_ (i:=8) (N:=some 37) (v:=?_) (a':=?_) #[true,true,true,true,true,true,true,true,true,false,true,false,false] rfl rfl (any_of HT_.out (by kernel_rfl)) (fun _ _ _ h=>h) (Or.inl ⟨by rfl,?_⟩) ?_ ?_
     rotate_left
     ·intro w'
      go_simp
      with_reducible rfl
     rotate_left
     ·simp only [Act.put,s1_,s2_,s3_,i64_w,i32_w]
      rfl
     refine pure_ (i:=9) (N:=some 38) (v:=?_) (a':=?_) #[true,true,true,true,true,true,true,true,true,true,true,false,false] rfl rfl (any_of HT_.out (by kernel_rfl)) (fun _ _ _ h=>h) (Or.inl ⟨by rfl,?_⟩) ?_ ?_
     rotate_left
     ·intro w'
      go_simp
      with_reducible rfl
     rotate_left
     ·simp only [Act.put,s1_,s2_,s3_,i64_w,i32_w]
      rfl
     exact norm_ (by simp only [putAll,Act.put,s1_,s2_,s3_]) (hCont (gb373) _ ⟨hHeld,(by (with_reducible repeat first|apply b1_|apply b2_|apply b3_);exact BK340.out),(by (with_reducible repeat first|apply b1_|apply b2_|apply b3_);exact BK341.out),(by (with_reducible repeat first|apply b1_|apply b2_|apply b3_);exact BK357.out),(by (with_reducible repeat first|apply b1_|apply b2_|apply b3_);exact BK373.out),GW373.out,GE373.out,NB340_373.out,NB373_340.out,NB341_373.out,NB373_341.out,NB357_373.out,NB373_357.out,(by repeat (first|(with_reducible first|exact HB.out|apply l1_|apply l2_|apply l3_|refine l4_ ?_ GE340.out|refine l4_ ?_ GE341.out|refine l4_ ?_ GE357.out|refine l4_ ?_ GE373.out)|exact HB.out))⟩)
   rintro gb373 w44 ⟨hS_,h0_,h1_,h2_,h3_,h4_,h5_,h6_,h7_,h8_,h9_,h10_,h11_,h12_⟩
   have n0_ : Aside0 (w44.heap[gb340]? = some (.cells #[.int .i64 a0_0,.int .i64 a0_1] 40 (0,0))):=⟨h0_⟩
   have n1_ : Aside0 (w44.heap[gb341]? = some (.cells #[.int .i64 a1_0,.int .i64 a1_1] 40 (0,0))):=⟨h1_⟩
   have n2_ : Aside0 (w44.heap[gb357]? = some (.cells #[.int .i64 t346,.int .i64 t347,.int .i64 t348,.int .i64 t349,.string t350,.string t351,.int .i64 t352,.int .i64 t353,.string t354,.string t355] 42 (0,0))):=⟨h2_⟩
   have n3_ : Aside0 (w44.heap[gb373]? = some (.cells #[.int .i64 0,.int .i64 0,.int .i64 0,.int .i64 0,.string (⟨#[]⟩ : ByteArray),.string (⟨#[]⟩ : ByteArray),.int .i64 0,.int .i64 0,.string (⟨#[]⟩ : ByteArray),.string (⟨#[]⟩ : ByteArray)] 42 (0,0))):=⟨h3_⟩
   have n4_ : Aside0 (w.heap.size ≤ gb373):=⟨h4_⟩
   have n5_ : Aside0 (w.heap.size ≤ gb373):=⟨h5_⟩
   have n6_ : Aside0 (gb340 ≠ gb373):=⟨h6_⟩
   have n7_ : Aside0 (gb373 ≠ gb340):=⟨h7_⟩
   have n8_ : Aside0 (gb341 ≠ gb373):=⟨h8_⟩
   have n9_ : Aside0 (gb373 ≠ gb341):=⟨h9_⟩
   have n10_ : Aside0 (gb357 ≠ gb373):=⟨h10_⟩
   have n11_ : Aside0 (gb373 ≠ gb357):=⟨h11_⟩
   have n12_ : Aside0 (Below w.heap.size w w44):=⟨h12_⟩
   clear BK340
   clear BK341
   clear BK357
   clear HB
   clear h0_ h1_ h2_ h3_ h4_ h5_ h6_ h7_ h8_ h9_ h10_ h11_ h12_
   have BK340:=n0_
   have BK341:=n1_
   have BK357:=n2_
   have BK373:=n3_
   have GW373:=n4_
   have GE373:=n5_
   have NB340_373:=n6_
   have NB373_340:=n7_
   have NB341_373:=n8_
   have NB373_341:=n9_
   have NB357_373:=n10_
   have NB373_357:=n11_
   have HB:=n12_
   clear n0_ n1_ n2_ n3_ n4_ n5_ n6_ n7_ n8_ n9_ n10_ n11_ n12_
   have hHeld : w44.cell? ⟨gb340,0,none⟩ = some (.int .i64 a0_0) ∧ w44.cell? ⟨gb340,1,none⟩ = some (.int .i64 a0_1) ∧ w44.cell? ⟨gb341,0,none⟩ = some (.int .i64 a1_0) ∧ w44.cell? ⟨gb341,1,none⟩ = some (.int .i64 a1_1):=hS_
   refine norm_ (a':=?_) ?_ ?_
   rotate_left
   ·simp only [putAll,Act.put,s1_,s2_,s3_]
    rfl
   refine one_ (i:=11) (N:=none) #[true,true,true,true,true,true,true,true,true,true,true,true,false] rfl rfl (one_of HT_.out (by kernel_rfl)) (by decide) (fun K hK=>?_)
   have hs45 : w44.cell? ⟨gb373,0,none⟩ = some (.int .i64 0):=(c_ BK373.out 0).trans rfl
   have hfs45:=f_ BK373.out 0
   have hns45_0:=NB340_373.out
   have hns45_1:=NB341_373.out
   have hns45_2:=NB357_373.out
   have hms45_0:=NB373_340.out
   have hms45_1:=NB373_341.out
   have hms45_2:=NB373_357.out
   have hs46 : w44.cell? ⟨gb373,1,none⟩ = some (.int .i64 0):=(c_ BK373.out 1).trans rfl
   have hfs46:=f_ BK373.out 1
   have hns46_0:=NB340_373.out
   have hns46_1:=NB341_373.out
   have hns46_2:=NB357_373.out
   have hms46_0:=NB373_340.out
   have hms46_1:=NB373_341.out
   have hms46_2:=NB373_357.out
   have hs47 : w44.cell? ⟨gb373,2,none⟩ = some (.int .i64 0):=(c_ BK373.out 2).trans rfl
   have hfs47:=f_ BK373.out 2
   have hns47_0:=NB340_373.out
   have hns47_1:=NB341_373.out
   have hns47_2:=NB357_373.out
   have hms47_0:=NB373_340.out
   have hms47_1:=NB373_341.out
   have hms47_2:=NB373_357.out
   have hs48 : w44.cell? ⟨gb373,3,none⟩ = some (.int .i64 0):=(c_ BK373.out 3).trans rfl
   have hfs48:=f_ BK373.out 3
   have hns48_0:=NB340_373.out
   have hns48_1:=NB341_373.out
   have hns48_2:=NB357_373.out
   have hms48_0:=NB373_340.out
   have hms48_1:=NB373_341.out
   have hms48_2:=NB373_357.out
   have hs49 : w44.cell? ⟨gb373,4,none⟩ = some (.string (⟨#[]⟩ : ByteArray)):=(c_ BK373.out 4).trans rfl
   have hfs49:=f_ BK373.out 4
   have hns49_0:=NB340_373.out
   have hns49_1:=NB341_373.out
   have hns49_2:=NB357_373.out
   have hms49_0:=NB373_340.out
   have hms49_1:=NB373_341.out
   have hms49_2:=NB373_357.out
   have hs50 : w44.cell? ⟨gb373,5,none⟩ = some (.string (⟨#[]⟩ : ByteArray)):=(c_ BK373.out 5).trans rfl
   have hfs50:=f_ BK373.out 5
   have hns50_0:=NB340_373.out
   have hns50_1:=NB341_373.out
   have hns50_2:=NB357_373.out
   have hms50_0:=NB373_340.out
   have hms50_1:=NB373_341.out
   have hms50_2:=NB373_357.out
   have hs51 : w44.cell? ⟨gb373,6,none⟩ = some (.int .i64 0):=(c_ BK373.out 6).trans rfl
   have hfs51:=f_ BK373.out 6
   have hns51_0:=NB340_373.out
   have hns51_1:=NB341_373.out
   have hns51_2:=NB357_373.out
   have hms51_0:=NB373_340.out
   have hms51_1:=NB373_341.out
   have hms51_2:=NB373_357.out
   have hs52 : w44.cell? ⟨gb373,7,none⟩ = some (.int .i64 0):=(c_ BK373.out 7).trans rfl
   have hfs52:=f_ BK373.out 7
   have hns52_0:=NB340_373.out
   have hns52_1:=NB341_373.out
   have hns52_2:=NB357_373.out
   have hms52_0:=NB373_340.out
   have hms52_1:=NB373_341.out
   have hms52_2:=NB373_357.out
   have hs53 : w44.cell? ⟨gb373,8,none⟩ = some (.string (⟨#[]⟩ : ByteArray)):=(c_ BK373.out 8).trans rfl
   have hfs53:=f_ BK373.out 8
   have hns53_0:=NB340_373.out
   have hns53_1:=NB341_373.out
   have hns53_2:=NB357_373.out
   have hms53_0:=NB373_340.out
   have hms53_1:=NB373_341.out
   have hms53_2:=NB373_357.out
   have hs54 : w44.cell? ⟨gb373,9,none⟩ = some (.string (⟨#[]⟩ : ByteArray)):=(c_ BK373.out 9).trans rfl
   have hfs54:=f_ BK373.out 9
   have hns54_0:=NB340_373.out
   have hns54_1:=NB341_373.out
   have hns54_2:=NB357_373.out
   have hms54_0:=NB373_340.out
   have hms54_1:=NB373_341.out
   have hms54_2:=NB373_357.out
   refine skip_ (w1:=?_) (by rfl) rfl ?_ ?_
   rotate_left
   ·go_simp
    rfl
   refine hK.out _ _ ⟨((cell_far (p:=⟨gb373,_,none⟩) NB340_373.out _).trans (((cell_far (p:=⟨gb373,_,none⟩) NB340_373.out _).trans (((cell_far (p:=⟨gb373,_,none⟩) NB340_373.out _).trans (((cell_far (p:=⟨gb373,_,none⟩) NB340_373.out _).trans (((cell_far (p:=⟨gb373,_,none⟩) NB340_373.out _).trans (((cell_far (p:=⟨gb373,_,none⟩) NB340_373.out _).trans (((cell_far (p:=⟨gb373,_,none⟩) NB340_373.out _).trans (((cell_far (p:=⟨gb373,_,none⟩) NB340_373.out _).trans (((cell_far (p:=⟨gb373,_,none⟩) NB340_373.out _).trans (((cell_far (p:=⟨gb373,_,none⟩) NB340_373.out _).trans (hHeld.1)))))))))))))))))))),((cell_far (p:=⟨gb373,_,none⟩) NB340_373.out _).trans (((cell_far (p:=⟨gb373,_,none⟩) NB340_373.out _).trans (((cell_far (p:=⟨gb373,_,none⟩) NB340_373.out _).trans (((cell_far (p:=⟨gb373,_,none⟩) NB340_373.out _).trans (((cell_far (p:=⟨gb373,_,none⟩) NB340_373.out _).trans (((cell_far (p:=⟨gb373,_,none⟩) NB340_373.out _).trans (((cell_far (p:=⟨gb373,_,none⟩) NB340_373.out _).trans (((cell_far (p:=⟨gb373,_,none⟩) NB340_373.out _).trans (((cell_far (p:=⟨gb373,_,none⟩) NB340_373.out _).trans (((cell_far (p:=⟨gb373,_,none⟩) NB340_373.out _).trans (hHeld.2.1)))))))))))))))))))),((cell_far (p:=⟨gb373,_,none⟩) NB341_373.out _).trans (((cell_far (p:=⟨gb373,_,none⟩) NB341_373.out _).trans (((cell_far (p:=⟨gb373,_,none⟩) NB341_373.out _).trans (((cell_far (p:=⟨gb373,_,none⟩) NB341_373.out _).trans (((cell_far (p:=⟨gb373,_,none⟩) NB341_373.out _).trans (((cell_far (p:=⟨gb373,_,none⟩) NB341_373.out _).trans (((cell_far (p:=⟨gb373,_,none⟩) NB341_373.out _).trans (((cell_far (p:=⟨gb373,_,none⟩) NB341_373.out _).trans (((cell_far (p:=⟨gb373,_,none⟩) NB341_373.out _).trans (((cell_far (p:=⟨gb373,_,none⟩) NB341_373.out _).trans (hHeld.2.2.1)))))))))))))))))))),((cell_far (p:=⟨gb373,_,none⟩) NB341_373.out _).trans (((cell_far (p:=⟨gb373,_,none⟩) NB341_373.out _).trans (((cell_far (p:=⟨gb373,_,none⟩) NB341_373.out _).trans (((cell_far (p:=⟨gb373,_,none⟩) NB341_373.out _).trans (((cell_far (p:=⟨gb373,_,none⟩) NB341_373.out _).trans (((cell_far (p:=⟨gb373,_,none⟩) NB341_373.out _).trans (((cell_far (p:=⟨gb373,_,none⟩) NB341_373.out _).trans (((cell_far (p:=⟨gb373,_,none⟩) NB341_373.out _).trans (((cell_far (p:=⟨gb373,_,none⟩) NB341_373.out _).trans (((cell_far (p:=⟨gb373,_,none⟩) NB341_373.out _).trans (hHeld.2.2.2))))))))))))))))))))⟩ (fun hHeld=>?_)
   clear hK K
   refine pure_ (i:=12) (N:=some 12) (v:=?_) (a':=?_) #[true,true,true,true,true,true,true,true,true,true,true,true,true] rfl rfl (any_of HT_.out (by kernel_rfl)) (fun _ _ _ h=>h) (Or.inl ⟨by rfl,?_⟩) ?_ ?_
   rotate_left
   ·intro w'
    go_simp
    with_reducible rfl
   rotate_left
   ·simp only [Act.put,s1_,s2_,s3_,i64_w,i32_w]
    rfl
   refine done_ (done_of HT_.out (by kernel_rfl)) ?_
   have hnb55:=NB373_340.out
   have hnc55:=NB340_373.out
   have hnb56:=NB373_341.out
   have hnc56:=NB341_373.out
   have hnb57:=NB373_357.out
   have hnc57:=NB357_373.out
   have hcz58_0 : w44.cell? ⟨gb373,0,none⟩ = some (.int .i64 0):=(c_ BK373.out 0).trans rfl
   have hcz58_1 : w44.cell? ⟨gb373,1,none⟩ = some (.int .i64 0):=(c_ BK373.out 1).trans rfl
   have hcz58_2 : w44.cell? ⟨gb373,2,none⟩ = some (.int .i64 0):=(c_ BK373.out 2).trans rfl
   have hcz58_3 : w44.cell? ⟨gb373,3,none⟩ = some (.int .i64 0):=(c_ BK373.out 3).trans rfl
   have hcz58_4 : w44.cell? ⟨gb373,4,none⟩ = some (.string (⟨#[]⟩ : ByteArray)):=(c_ BK373.out 4).trans rfl
   have hcz58_5 : w44.cell? ⟨gb373,5,none⟩ = some (.string (⟨#[]⟩ : ByteArray)):=(c_ BK373.out 5).trans rfl
   have hcz58_6 : w44.cell? ⟨gb373,6,none⟩ = some (.int .i64 0):=(c_ BK373.out 6).trans rfl
   have hcz58_7 : w44.cell? ⟨gb373,7,none⟩ = some (.int .i64 0):=(c_ BK373.out 7).trans rfl
   have hcz58_8 : w44.cell? ⟨gb373,8,none⟩ = some (.string (⟨#[]⟩ : ByteArray)):=(c_ BK373.out 8).trans rfl
   have hcz58_9 : w44.cell? ⟨gb373,9,none⟩ = some (.string (⟨#[]⟩ : ByteArray)):=(c_ BK373.out 9).trans rfl
   have hfz58_0:=f_ BK373.out 0
   have hfz58_1:=f_ BK373.out 1
   have hfz58_2:=f_ BK373.out 2
   have hfz58_3:=f_ BK373.out 3
   have hfz58_4:=f_ BK373.out 4
   have hfz58_5:=f_ BK373.out 5
   have hfz58_6:=f_ BK373.out 6
   have hfz58_7:=f_ BK373.out 7
   have hfz58_8:=f_ BK373.out 8
   have hfz58_9:=f_ BK373.out 9
   have hnb59:=NB357_340.out
   have hnc59:=NB340_357.out
   have hnb60:=NB357_341.out
   have hnc60:=NB341_357.out
   have hcz61_0 : w44.cell? ⟨gb357,0,none⟩ = some (.int .i64 t346):=(c_ BK357.out 0).trans rfl
   have hcz61_1 : w44.cell? ⟨gb357,1,none⟩ = some (.int .i64 t347):=(c_ BK357.out 1).trans rfl
   have hcz61_2 : w44.cell? ⟨gb357,2,none⟩ = some (.int .i64 t348):=(c_ BK357.out 2).trans rfl
   have hcz61_3 : w44.cell? ⟨gb357,3,none⟩ = some (.int .i64 t349):=(c_ BK357.out 3).trans rfl
   have hcz61_4 : w44.cell? ⟨gb357,4,none⟩ = some (.string t350):=(c_ BK357.out 4).trans rfl
   have hcz61_5 : w44.cell? ⟨gb357,5,none⟩ = some (.string t351):=(c_ BK357.out 5).trans rfl
   have hcz61_6 : w44.cell? ⟨gb357,6,none⟩ = some (.int .i64 t352):=(c_ BK357.out 6).trans rfl
   have hcz61_7 : w44.cell? ⟨gb357,7,none⟩ = some (.int .i64 t353):=(c_ BK357.out 7).trans rfl
   have hcz61_8 : w44.cell? ⟨gb357,8,none⟩ = some (.string t354):=(c_ BK357.out 8).trans rfl
   have hcz61_9 : w44.cell? ⟨gb357,9,none⟩ = some (.string t355):=(c_ BK357.out 9).trans rfl
   have hfz61_0:=f_ BK357.out 0
   have hfz61_1:=f_ BK357.out 1
   have hfz61_2:=f_ BK357.out 2
   have hfz61_3:=f_ BK357.out 3
   have hfz61_4:=f_ BK357.out 4
   have hfz61_5:=f_ BK357.out 5
   have hfz61_6:=f_ BK357.out 6
   have hfz61_7:=f_ BK357.out 7
   have hfz61_8:=f_ BK357.out 8
   have hfz61_9:=f_ BK357.out 9
   have H:=HH_.out
   clear HH_
   by_cases c18 : t374 = true
   ·subst c18
    have H1 : (if (t372 != t356) = true then (some false) else (some true)) = some r:=by rw [if_pos rfl] at H;exact H
    clear H
    have H:=H1
    clear H1
    by_cases c19 : (t372 != t356) = true
    ·rw [if_pos c19] at H
     have c19b0 : (t372 != t356) = true:=c19
     (try (have c19b1 : decide (t372 = t356) = false:=by simpa using c19))
     (try (have c19b2 : (t372 == t356) = false:=by simpa using c19))
     (try (have c19b3 : ¬ (t372 = t356):=by simpa using c19))
     clear c19
     obtain rfl:=Option.some.inj H
     try go_wp2_with (first|((with_reducible refine gate_callee (f:=31) rfl ?_);refine goesL_ (some 41) rfl rfl Tryd.func31 (by kernel_rfl) rfl #[.agg #[.int .i64 t362,.int .i64 t363,.int .i64 t364,.int .i64 t365,.string t366,.string t367,.int .i64 t368,.int .i64 t369,.string t370,.string t371],.agg #[.int .i64 t346,.int .i64 t347,.int .i64 t348,.int .i64 t349,.string t350,.string t351,.int .i64 t352,.int .i64 t353,.string t354,.string t355]] rfl (by (try simp only [List.map_toArray,List.map_cons,List.map_nil]);first|done|rfl|(simp only [List.length_drop,List.length_take];rfl)) ?_;(with_reducible refine (laws_eqConv.calls t362 t363 t364 t365 t366 t367 t368 t369 t370 t371 t346 t347 t348 t349 t350 t351 t352 t353 t354 t355 _ _ A17.out).mono ?_);rintro e w62 ⟨rfl,hb⟩;refine ⟨_,rfl,?_⟩;have n0_:=m_ (blk_below (g:=gb340) (o:=.cells #[.int .i64 a0_0,.int .i64 a0_1] 40 (0,0)) (by (with_reducible repeat first|apply b1_|apply b2_|apply b3_);refine b4_ ?_ NB340_373.out _;(with_reducible repeat first|apply b1_|apply b2_|apply b3_);refine b4_ ?_ NB340_373.out _;(with_reducible repeat first|apply b1_|apply b2_|apply b3_);refine b4_ ?_ NB340_373.out _;(with_reducible repeat first|apply b1_|apply b2_|apply b3_);refine b4_ ?_ NB340_373.out _;(with_reducible repeat first|apply b1_|apply b2_|apply b3_);refine b4_ ?_ NB340_373.out _;(with_reducible repeat first|apply b1_|apply b2_|apply b3_);refine b4_ ?_ NB340_373.out _;(with_reducible repeat first|apply b1_|apply b2_|apply b3_);refine b4_ ?_ NB340_373.out _;(with_reducible repeat first|apply b1_|apply b2_|apply b3_);refine b4_ ?_ NB340_373.out _;(with_reducible repeat first|apply b1_|apply b2_|apply b3_);refine b4_ ?_ NB340_373.out _;(with_reducible repeat first|apply b1_|apply b2_|apply b3_);refine b4_ ?_ NB340_373.out _;(with_reducible repeat first|apply b1_|apply b2_|apply b3_);exact BK340.out) hb);have n1_:=m_ (blk_below (g:=gb341) (o:=.cells #[.int .i64 a1_0,.int .i64 a1_1] 40 (0,0)) (by (with_reducible repeat first|apply b1_|apply b2_|apply b3_);refine b4_ ?_ NB341_373.out _;(with_reducible repeat first|apply b1_|apply b2_|apply b3_);refine b4_ ?_ NB341_373.out _;(with_reducible repeat first|apply b1_|apply b2_|apply b3_);refine b4_ ?_ NB341_373.out _;(with_reducible repeat first|apply b1_|apply b2_|apply b3_);refine b4_ ?_ NB341_373.out _;(with_reducible repeat first|apply b1_|apply b2_|apply b3_);refine b4_ ?_ NB341_373.out _;(with_reducible repeat first|apply b1_|apply b2_|apply b3_);refine b4_ ?_ NB341_373.out _;(with_reducible repeat first|apply b1_|apply b2_|apply b3_);refine b4_ ?_ NB341_373.out _;(with_reducible repeat first|apply b1_|apply b2_|apply b3_);refine b4_ ?_ NB341_373.out _;(with_reducible repeat first|apply b1_|apply b2_|apply b3_);refine b4_ ?_ NB341_373.out _;(with_reducible repeat first|apply b1_|apply b2_|apply b3_);refine b4_ ?_ NB341_373.out _;(with_reducible repeat first|apply b1_|apply b2_|apply b3_);exact BK341.out) hb);have n2_:=m_ (blk_below (g:=gb357) (o:=.cells #[.int .i64 t346,.int .i64 t347,.int .i64 t348,.int .i64 t349,.string t350,.string t351,.int .i64 t352,.int .i64 t353,.string t354,.string t355] 42 (0,0)) (by (with_reducible repeat first|apply b1_|apply b2_|apply b3_);refine b4_ ?_ NB357_373.out _;(with_reducible repeat first|apply b1_|apply b2_|apply b3_);refine b4_ ?_ NB357_373.out _;(with_reducible repeat first|apply b1_|apply b2_|apply b3_);refine b4_ ?_ NB357_373.out _;(with_reducible repeat first|apply b1_|apply b2_|apply b3_);refine b4_ ?_ NB357_373.out _;(with_reducible repeat first|apply b1_|apply b2_|apply b3_);refine b4_ ?_ NB357_373.out _;(with_reducible repeat first|apply b1_|apply b2_|apply b3_);refine b4_ ?_ NB357_373.out _;(with_reducible repeat first|apply b1_|apply b2_|apply b3_);refine b4_ ?_ NB357_373.out _;(with_reducible repeat first|apply b1_|apply b2_|apply b3_);refine b4_ ?_ NB357_373.out _;(with_reducible repeat first|apply b1_|apply b2_|apply b3_);refine b4_ ?_ NB357_373.out _;(with_reducible repeat first|apply b1_|apply b2_|apply b3_);refine b4_ ?_ NB357_373.out _;(with_reducible repeat first|apply b1_|apply b2_|apply b3_);exact BK357.out) hb);have n3_:=m_ (blk_below (g:=gb373) (o:=.cells #[.int .i64 t362,.int .i64 t363,.int .i64 t364,.int .i64 t365,.string t366,.string t367,.int .i64 t368,.int .i64 t369,.string t370,.string t371] 42 (0,0)) (by (with_reducible repeat first|apply b1_|apply b2_|apply b3_);refine blk_put (cs:=#[.int .i64 t362,.int .i64 t363,.int .i64 t364,.int .i64 t365,.string t366,.string t367,.int .i64 t368,.int .i64 t369,.string t370,.string (⟨#[]⟩ : ByteArray)]) ?_ 9 _ rfl;(with_reducible repeat first|apply b1_|apply b2_|apply b3_);refine blk_put (cs:=#[.int .i64 t362,.int .i64 t363,.int .i64 t364,.int .i64 t365,.string t366,.string t367,.int .i64 t368,.int .i64 t369,.string (⟨#[]⟩ : ByteArray),.string (⟨#[]⟩ : ByteArray)]) ?_ 8 _ rfl;(with_reducible repeat first|apply b1_|apply b2_|apply b3_);refine blk_put (cs:=#[.int .i64 t362,.int .i64 t363,.int .i64 t364,.int .i64 t365,.string t366,.string t367,.int .i64 t368,.int .i64 0,.string (⟨#[]⟩ : ByteArray),.string (⟨#[]⟩ : ByteArray)]) ?_ 7 _ rfl;(with_reducible repeat first|apply b1_|apply b2_|apply b3_);refine blk_put (cs:=#[.int .i64 t362,.int .i64 t363,.int .i64 t364,.int .i64 t365,.string t366,.string t367,.int .i64 0,.int .i64 0,.string (⟨#[]⟩ : ByteArray),.string (⟨#[]⟩ : ByteArray)]) ?_ 6 _ rfl;(with_reducible repeat first|apply b1_|apply b2_|apply b3_);refine blk_put (cs:=#[.int .i64 t362,.int .i64 t363,.int .i64 t364,.int .i64 t365,.string t366,.string (⟨#[]⟩ : ByteArray),.int .i64 0,.int .i64 0,.string (⟨#[]⟩ : ByteArray),.string (⟨#[]⟩ : ByteArray)]) ?_ 5 _ rfl;(with_reducible repeat first|apply b1_|apply b2_|apply b3_);refine blk_put (cs:=#[.int .i64 t362,.int .i64 t363,.int .i64 t364,.int .i64 t365,.string (⟨#[]⟩ : ByteArray),.string (⟨#[]⟩ : ByteArray),.int .i64 0,.int .i64 0,.string (⟨#[]⟩ : ByteArray),.string (⟨#[]⟩ : ByteArray)]) ?_ 4 _ rfl;(with_reducible repeat first|apply b1_|apply b2_|apply b3_);refine blk_put (cs:=#[.int .i64 t362,.int .i64 t363,.int .i64 t364,.int .i64 0,.string (⟨#[]⟩ : ByteArray),.string (⟨#[]⟩ : ByteArray),.int .i64 0,.int .i64 0,.string (⟨#[]⟩ : ByteArray),.string (⟨#[]⟩ : ByteArray)]) ?_ 3 _ rfl;(with_reducible repeat first|apply b1_|apply b2_|apply b3_);refine blk_put (cs:=#[.int .i64 t362,.int .i64 t363,.int .i64 0,.int .i64 0,.string (⟨#[]⟩ : ByteArray),.string (⟨#[]⟩ : ByteArray),.int .i64 0,.int .i64 0,.string (⟨#[]⟩ : ByteArray),.string (⟨#[]⟩ : ByteArray)]) ?_ 2 _ rfl;(with_reducible repeat first|apply b1_|apply b2_|apply b3_);refine blk_put (cs:=#[.int .i64 t362,.int .i64 0,.int .i64 0,.int .i64 0,.string (⟨#[]⟩ : ByteArray),.string (⟨#[]⟩ : ByteArray),.int .i64 0,.int .i64 0,.string (⟨#[]⟩ : ByteArray),.string (⟨#[]⟩ : ByteArray)]) ?_ 1 _ rfl;(with_reducible repeat first|apply b1_|apply b2_|apply b3_);refine blk_put (cs:=#[.int .i64 0,.int .i64 0,.int .i64 0,.int .i64 0,.string (⟨#[]⟩ : ByteArray),.string (⟨#[]⟩ : ByteArray),.int .i64 0,.int .i64 0,.string (⟨#[]⟩ : ByteArray),.string (⟨#[]⟩ : ByteArray)]) ?_ 0 _ rfl;(with_reducible repeat first|apply b1_|apply b2_|apply b3_);exact BK373.out) hb);have n4_:=m_ (l5_ (by repeat (first|(with_reducible first|exact HB.out|apply l1_|apply l2_|apply l3_|refine l4_ ?_ GE340.out|refine l4_ ?_ GE341.out|refine l4_ ?_ GE357.out|refine l4_ ?_ GE373.out)|exact HB.out)) hb);clear BK340;clear BK341;clear BK357;clear BK373;clear HB;have BK340:=n0_;have BK341:=n1_;have BK357:=n2_;have BK373:=n3_;have HB:=n4_;clear n0_ n1_ n2_ n3_ n4_;(try clear hb);(try clear hb2);(try clear hk);(try clear hi)))
     go_ret
     exact ⟨by first|rfl|(simp [errW_none,errW_some] <;> rfl)|(simp [*,errW_none,errW_some] <;> rfl)|(simp [errW_none,errW_some,pk_empty1,pk_empty2];done)|(simp [*,errW_none,errW_some,pk_empty1,pk_empty2];done),by repeat (first|(with_reducible first|exact HB.out|apply l1_|apply l2_|apply l3_|refine l4_ ?_ GE340.out|refine l4_ ?_ GE341.out|refine l4_ ?_ GE357.out|refine l4_ ?_ GE373.out)|exact HB.out)⟩
    ·rw [if_neg c19] at H
     have c19b0 : (t372 != t356) = false:=by simpa using c19
     (try (have c19b1 : decide (t372 = t356) = true:=by simpa using c19))
     (try (have c19b2 : (t372 == t356) = true:=by simpa using c19))
     clear c19
     obtain rfl:=Option.some.inj H
     try go_wp2_with (first|((with_reducible refine gate_callee (f:=31) rfl ?_);refine goesL_ (some 41) rfl rfl Tryd.func31 (by kernel_rfl) rfl #[.agg #[.int .i64 t362,.int .i64 t363,.int .i64 t364,.int .i64 t365,.string t366,.string t367,.int .i64 t368,.int .i64 t369,.string t370,.string t371],.agg #[.int .i64 t346,.int .i64 t347,.int .i64 t348,.int .i64 t349,.string t350,.string t351,.int .i64 t352,.int .i64 t353,.string t354,.string t355]] rfl (by (try simp only [List.map_toArray,List.map_cons,List.map_nil]);first|done|rfl|(simp only [List.length_drop,List.length_take];rfl)) ?_;(with_reducible refine (laws_eqConv.calls t362 t363 t364 t365 t366 t367 t368 t369 t370 t371 t346 t347 t348 t349 t350 t351 t352 t353 t354 t355 _ _ A17.out).mono ?_);rintro e w62 ⟨rfl,hb⟩;refine ⟨_,rfl,?_⟩;have n0_:=m_ (blk_below (g:=gb340) (o:=.cells #[.int .i64 a0_0,.int .i64 a0_1] 40 (0,0)) (by (with_reducible repeat first|apply b1_|apply b2_|apply b3_);refine b4_ ?_ NB340_373.out _;(with_reducible repeat first|apply b1_|apply b2_|apply b3_);refine b4_ ?_ NB340_373.out _;(with_reducible repeat first|apply b1_|apply b2_|apply b3_);refine b4_ ?_ NB340_373.out _;(with_reducible repeat first|apply b1_|apply b2_|apply b3_);refine b4_ ?_ NB340_373.out _;(with_reducible repeat first|apply b1_|apply b2_|apply b3_);refine b4_ ?_ NB340_373.out _;(with_reducible repeat first|apply b1_|apply b2_|apply b3_);refine b4_ ?_ NB340_373.out _;(with_reducible repeat first|apply b1_|apply b2_|apply b3_);refine b4_ ?_ NB340_373.out _;(with_reducible repeat first|apply b1_|apply b2_|apply b3_);refine b4_ ?_ NB340_373.out _;(with_reducible repeat first|apply b1_|apply b2_|apply b3_);refine b4_ ?_ NB340_373.out _;(with_reducible repeat first|apply b1_|apply b2_|apply b3_);refine b4_ ?_ NB340_373.out _;(with_reducible repeat first|apply b1_|apply b2_|apply b3_);exact BK340.out) hb);have n1_:=m_ (blk_below (g:=gb341) (o:=.cells #[.int .i64 a1_0,.int .i64 a1_1] 40 (0,0)) (by (with_reducible repeat first|apply b1_|apply b2_|apply b3_);refine b4_ ?_ NB341_373.out _;(with_reducible repeat first|apply b1_|apply b2_|apply b3_);refine b4_ ?_ NB341_373.out _;(with_reducible repeat first|apply b1_|apply b2_|apply b3_);refine b4_ ?_ NB341_373.out _;(with_reducible repeat first|apply b1_|apply b2_|apply b3_);refine b4_ ?_ NB341_373.out _;(with_reducible repeat first|apply b1_|apply b2_|apply b3_);refine b4_ ?_ NB341_373.out _;(with_reducible repeat first|apply b1_|apply b2_|apply b3_);refine b4_ ?_ NB341_373.out _;(with_reducible repeat first|apply b1_|apply b2_|apply b3_);refine b4_ ?_ NB341_373.out _;(with_reducible repeat first|apply b1_|apply b2_|apply b3_);refine b4_ ?_ NB341_373.out _;(with_reducible repeat first|apply b1_|apply b2_|apply b3_);refine b4_ ?_ NB341_373.out _;(with_reducible repeat first|apply b1_|apply b2_|apply b3_);refine b4_ ?_ NB341_373.out _;(with_reducible repeat first|apply b1_|apply b2_|apply b3_);exact BK341.out) hb);have n2_:=m_ (blk_below (g:=gb357) (o:=.cells #[.int .i64 t346,.int .i64 t347,.int .i64 t348,.int .i64 t349,.string t350,.string t351,.int .i64 t352,.int .i64 t353,.string t354,.string t355] 42 (0,0)) (by (with_reducible repeat first|apply b1_|apply b2_|apply b3_);refine b4_ ?_ NB357_373.out _;(with_reducible repeat first|apply b1_|apply b2_|apply b3_);refine b4_ ?_ NB357_373.out _;(with_reducible repeat first|apply b1_|apply b2_|apply b3_);refine b4_ ?_ NB357_373.out _;(with_reducible repeat first|apply b1_|apply b2_|apply b3_);refine b4_ ?_ NB357_373.out _;(with_reducible repeat first|apply b1_|apply b2_|apply b3_);refine b4_ ?_ NB357_373.out _;(with_reducible repeat first|apply b1_|apply b2_|apply b3_);refine b4_ ?_ NB357_373.out _;(with_reducible repeat first|apply b1_|apply b2_|apply b3_);refine b4_ ?_ NB357_373.out _;(with_reducible repeat first|apply b1_|apply b2_|apply b3_);refine b4_ ?_ NB357_373.out _;(with_reducible repeat first|apply b1_|apply b2_|apply b3_);refine b4_ ?_ NB357_373.out _;(with_reducible repeat first|apply b1_|apply b2_|apply b3_);refine b4_ ?_ NB357_373.out _;(with_reducible repeat first|apply b1_|apply b2_|apply b3_);exact BK357.out) hb);have n3_:=m_ (blk_below (g:=gb373) (o:=.cells #[.int .i64 t362,.int .i64 t363,.int .i64 t364,.int .i64 t365,.string t366,.string t367,.int .i64 t368,.int .i64 t369,.string t370,.string t371] 42 (0,0)) (by (with_reducible repeat first|apply b1_|apply b2_|apply b3_);refine blk_put (cs:=#[.int .i64 t362,.int .i64 t363,.int .i64 t364,.int .i64 t365,.string t366,.string t367,.int .i64 t368,.int .i64 t369,.string t370,.string (⟨#[]⟩ : ByteArray)]) ?_ 9 _ rfl;(with_reducible repeat first|apply b1_|apply b2_|apply b3_);refine blk_put (cs:=#[.int .i64 t362,.int .i64 t363,.int .i64 t364,.int .i64 t365,.string t366,.string t367,.int .i64 t368,.int .i64 t369,.string (⟨#[]⟩ : ByteArray),.string (⟨#[]⟩ : ByteArray)]) ?_ 8 _ rfl;(with_reducible repeat first|apply b1_|apply b2_|apply b3_);refine blk_put (cs:=#[.int .i64 t362,.int .i64 t363,.int .i64 t364,.int .i64 t365,.string t366,.string t367,.int .i64 t368,.int .i64 0,.string (⟨#[]⟩ : ByteArray),.string (⟨#[]⟩ : ByteArray)]) ?_ 7 _ rfl;(with_reducible repeat first|apply b1_|apply b2_|apply b3_);refine blk_put (cs:=#[.int .i64 t362,.int .i64 t363,.int .i64 t364,.int .i64 t365,.string t366,.string t367,.int .i64 0,.int .i64 0,.string (⟨#[]⟩ : ByteArray),.string (⟨#[]⟩ : ByteArray)]) ?_ 6 _ rfl;(with_reducible repeat first|apply b1_|apply b2_|apply b3_);refine blk_put (cs:=#[.int .i64 t362,.int .i64 t363,.int .i64 t364,.int .i64 t365,.string t366,.string (⟨#[]⟩ : ByteArray),.int .i64 0,.int .i64 0,.string (⟨#[]⟩ : ByteArray),.string (⟨#[]⟩ : ByteArray)]) ?_ 5 _ rfl;(with_reducible repeat first|apply b1_|apply b2_|apply b3_);refine blk_put (cs:=#[.int .i64 t362,.int .i64 t363,.int .i64 t364,.int .i64 t365,.string (⟨#[]⟩ : ByteArray),.string (⟨#[]⟩ : ByteArray),.int .i64 0,.int .i64 0,.string (⟨#[]⟩ : ByteArray),.string (⟨#[]⟩ : ByteArray)]) ?_ 4 _ rfl;(with_reducible repeat first|apply b1_|apply b2_|apply b3_);refine blk_put (cs:=#[.int .i64 t362,.int .i64 t363,.int .i64 t364,.int .i64 0,.string (⟨#[]⟩ : ByteArray),.string (⟨#[]⟩ : ByteArray),.int .i64 0,.int .i64 0,.string (⟨#[]⟩ : ByteArray),.string (⟨#[]⟩ : ByteArray)]) ?_ 3 _ rfl;(with_reducible repeat first|apply b1_|apply b2_|apply b3_);refine blk_put (cs:=#[.int .i64 t362,.int .i64 t363,.int .i64 0,.int .i64 0,.string (⟨#[]⟩ : ByteArray),.string (⟨#[]⟩ : ByteArray),.int .i64 0,.int .i64 0,.string (⟨#[]⟩ : ByteArray),.string (⟨#[]⟩ : ByteArray)]) ?_ 2 _ rfl;(with_reducible repeat first|apply b1_|apply b2_|apply b3_);refine blk_put (cs:=#[.int .i64 t362,.int .i64 0,.int .i64 0,.int .i64 0,.string (⟨#[]⟩ : ByteArray),.string (⟨#[]⟩ : ByteArray),.int .i64 0,.int .i64 0,.string (⟨#[]⟩ : ByteArray),.string (⟨#[]⟩ : ByteArray)]) ?_ 1 _ rfl;(with_reducible repeat first|apply b1_|apply b2_|apply b3_);refine blk_put (cs:=#[.int .i64 0,.int .i64 0,.int .i64 0,.int .i64 0,.string (⟨#[]⟩ : ByteArray),.string (⟨#[]⟩ : ByteArray),.int .i64 0,.int .i64 0,.string (⟨#[]⟩ : ByteArray),.string (⟨#[]⟩ : ByteArray)]) ?_ 0 _ rfl;(with_reducible repeat first|apply b1_|apply b2_|apply b3_);exact BK373.out) hb);have n4_:=m_ (l5_ (by repeat (first|(with_reducible first|exact HB.out|apply l1_|apply l2_|apply l3_|refine l4_ ?_ GE340.out|refine l4_ ?_ GE341.out|refine l4_ ?_ GE357.out|refine l4_ ?_ GE373.out)|exact HB.out)) hb);clear BK340;clear BK341;clear BK357;clear BK373;clear HB;have BK340:=n0_;have BK341:=n1_;have BK357:=n2_;have BK373:=n3_;have HB:=n4_;clear n0_ n1_ n2_ n3_ n4_;(try clear hb);(try clear hb2);(try clear hk);(try clear hi)))
     go_ret
     exact ⟨by first|rfl|(simp [errW_none,errW_some] <;> rfl)|(simp [*,errW_none,errW_some] <;> rfl)|(simp [errW_none,errW_some,pk_empty1,pk_empty2];done)|(simp [*,errW_none,errW_some,pk_empty1,pk_empty2];done),by repeat (first|(with_reducible first|exact HB.out|apply l1_|apply l2_|apply l3_|refine l4_ ?_ GE340.out|refine l4_ ?_ GE341.out|refine l4_ ?_ GE357.out|refine l4_ ?_ GE373.out)|exact HB.out)⟩
   ·replace c18:=Bool.eq_false_iff.mpr c18
    subst c18
    have H1 : (some false) = some r:=by rw [if_neg (show ¬ (false = true) by decide)] at H;exact H
    clear H
    have H:=H1
    clear H1
    obtain rfl:=Option.some.inj H
    try go_wp2_with (first|((with_reducible refine gate_callee (f:=31) rfl ?_);refine goesL_ (some 41) rfl rfl Tryd.func31 (by kernel_rfl) rfl #[.agg #[.int .i64 t362,.int .i64 t363,.int .i64 t364,.int .i64 t365,.string t366,.string t367,.int .i64 t368,.int .i64 t369,.string t370,.string t371],.agg #[.int .i64 t346,.int .i64 t347,.int .i64 t348,.int .i64 t349,.string t350,.string t351,.int .i64 t352,.int .i64 t353,.string t354,.string t355]] rfl (by (try simp only [List.map_toArray,List.map_cons,List.map_nil]);first|done|rfl|(simp only [List.length_drop,List.length_take];rfl)) ?_;(with_reducible refine (laws_eqConv.calls t362 t363 t364 t365 t366 t367 t368 t369 t370 t371 t346 t347 t348 t349 t350 t351 t352 t353 t354 t355 _ _ A17.out).mono ?_);rintro e w62 ⟨rfl,hb⟩;refine ⟨_,rfl,?_⟩;have n0_:=m_ (blk_below (g:=gb340) (o:=.cells #[.int .i64 a0_0,.int .i64 a0_1] 40 (0,0)) (by (with_reducible repeat first|apply b1_|apply b2_|apply b3_);refine b4_ ?_ NB340_373.out _;(with_reducible repeat first|apply b1_|apply b2_|apply b3_);refine b4_ ?_ NB340_373.out _;(with_reducible repeat first|apply b1_|apply b2_|apply b3_);refine b4_ ?_ NB340_373.out _;(with_reducible repeat first|apply b1_|apply b2_|apply b3_);refine b4_ ?_ NB340_373.out _;(with_reducible repeat first|apply b1_|apply b2_|apply b3_);refine b4_ ?_ NB340_373.out _;(with_reducible repeat first|apply b1_|apply b2_|apply b3_);refine b4_ ?_ NB340_373.out _;(with_reducible repeat first|apply b1_|apply b2_|apply b3_);refine b4_ ?_ NB340_373.out _;(with_reducible repeat first|apply b1_|apply b2_|apply b3_);refine b4_ ?_ NB340_373.out _;(with_reducible repeat first|apply b1_|apply b2_|apply b3_);refine b4_ ?_ NB340_373.out _;(with_reducible repeat first|apply b1_|apply b2_|apply b3_);refine b4_ ?_ NB340_373.out _;(with_reducible repeat first|apply b1_|apply b2_|apply b3_);exact BK340.out) hb);have n1_:=m_ (blk_below (g:=gb341) (o:=.cells #[.int .i64 a1_0,.int .i64 a1_1] 40 (0,0)) (by (with_reducible repeat first|apply b1_|apply b2_|apply b3_);refine b4_ ?_ NB341_373.out _;(with_reducible repeat first|apply b1_|apply b2_|apply b3_);refine b4_ ?_ NB341_373.out _;(with_reducible repeat first|apply b1_|apply b2_|apply b3_);refine b4_ ?_ NB341_373.out _;(with_reducible repeat first|apply b1_|apply b2_|apply b3_);refine b4_ ?_ NB341_373.out _;(with_reducible repeat first|apply b1_|apply b2_|apply b3_);refine b4_ ?_ NB341_373.out _;(with_reducible repeat first|apply b1_|apply b2_|apply b3_);refine b4_ ?_ NB341_373.out _;(with_reducible repeat first|apply b1_|apply b2_|apply b3_);refine b4_ ?_ NB341_373.out _;(with_reducible repeat first|apply b1_|apply b2_|apply b3_);refine b4_ ?_ NB341_373.out _;(with_reducible repeat first|apply b1_|apply b2_|apply b3_);refine b4_ ?_ NB341_373.out _;(with_reducible repeat first|apply b1_|apply b2_|apply b3_);refine b4_ ?_ NB341_373.out _;(with_reducible repeat first|apply b1_|apply b2_|apply b3_);exact BK341.out) hb);have n2_:=m_ (blk_below (g:=gb357) (o:=.cells #[.int .i64 t346,.int .i64 t347,.int .i64 t348,.int .i64 t349,.string t350,.string t351,.int .i64 t352,.int .i64 t353,.string t354,.string t355] 42 (0,0)) (by (with_reducible repeat first|apply b1_|apply b2_|apply b3_);refine b4_ ?_ NB357_373.out _;(with_reducible repeat first|apply b1_|apply b2_|apply b3_);refine b4_ ?_ NB357_373.out _;(with_reducible repeat first|apply b1_|apply b2_|apply b3_);refine b4_ ?_ NB357_373.out _;(with_reducible repeat first|apply b1_|apply b2_|apply b3_);refine b4_ ?_ NB357_373.out _;(with_reducible repeat first|apply b1_|apply b2_|apply b3_);refine b4_ ?_ NB357_373.out _;(with_reducible repeat first|apply b1_|apply b2_|apply b3_);refine b4_ ?_ NB357_373.out _;(with_reducible repeat first|apply b1_|apply b2_|apply b3_);refine b4_ ?_ NB357_373.out _;(with_reducible repeat first|apply b1_|apply b2_|apply b3_);refine b4_ ?_ NB357_373.out _;(with_reducible repeat first|apply b1_|apply b2_|apply b3_);refine b4_ ?_ NB357_373.out _;(with_reducible repeat first|apply b1_|apply b2_|apply b3_);refine b4_ ?_ NB357_373.out _;(with_reducible repeat first|apply b1_|apply b2_|apply b3_);exact BK357.out) hb);have n3_:=m_ (blk_below (g:=gb373) (o:=.cells #[.int .i64 t362,.int .i64 t363,.int .i64 t364,.int .i64 t365,.string t366,.string t367,.int .i64 t368,.int .i64 t369,.string t370,.string t371] 42 (0,0)) (by (with_reducible repeat first|apply b1_|apply b2_|apply b3_);refine blk_put (cs:=#[.int .i64 t362,.int .i64 t363,.int .i64 t364,.int .i64 t365,.string t366,.string t367,.int .i64 t368,.int .i64 t369,.string t370,.string (⟨#[]⟩ : ByteArray)]) ?_ 9 _ rfl;(with_reducible repeat first|apply b1_|apply b2_|apply b3_);refine blk_put (cs:=#[.int .i64 t362,.int .i64 t363,.int .i64 t364,.int .i64 t365,.string t366,.string t367,.int .i64 t368,.int .i64 t369,.string (⟨#[]⟩ : ByteArray),.string (⟨#[]⟩ : ByteArray)]) ?_ 8 _ rfl;(with_reducible repeat first|apply b1_|apply b2_|apply b3_);refine blk_put (cs:=#[.int .i64 t362,.int .i64 t363,.int .i64 t364,.int .i64 t365,.string t366,.string t367,.int .i64 t368,.int .i64 0,.string (⟨#[]⟩ : ByteArray),.string (⟨#[]⟩ : ByteArray)]) ?_ 7 _ rfl;(with_reducible repeat first|apply b1_|apply b2_|apply b3_);refine blk_put (cs:=#[.int .i64 t362,.int .i64 t363,.int .i64 t364,.int .i64 t365,.string t366,.string t367,.int .i64 0,.int .i64 0,.string (⟨#[]⟩ : ByteArray),.string (⟨#[]⟩ : ByteArray)]) ?_ 6 _ rfl;(with_reducible repeat first|apply b1_|apply b2_|apply b3_);refine blk_put (cs:=#[.int .i64 t362,.int .i64 t363,.int .i64 t364,.int .i64 t365,.string t366,.string (⟨#[]⟩ : ByteArray),.int .i64 0,.int .i64 0,.string (⟨#[]⟩ : ByteArray),.string (⟨#[]⟩ : ByteArray)]) ?_ 5 _ rfl;(with_reducible repeat first|apply b1_|apply b2_|apply b3_);refine blk_put (cs:=#[.int .i64 t362,.int .i64 t363,.int .i64 t364,.int .i64 t365,.string (⟨#[]⟩ : ByteArray),.string (⟨#[]⟩ : ByteArray),.int .i64 0,.int .i64 0,.string (⟨#[]⟩ : ByteArray),.string (⟨#[]⟩ : ByteArray)]) ?_ 4 _ rfl;(with_reducible repeat first|apply b1_|apply b2_|apply b3_);refine blk_put (cs:=#[.int .i64 t362,.int .i64 t363,.int .i64 t364,.int .i64 0,.string (⟨#[]⟩ : ByteArray),.string (⟨#[]⟩ : ByteArray),.int .i64 0,.int .i64 0,.string (⟨#[]⟩ : ByteArray),.string (⟨#[]⟩ : ByteArray)]) ?_ 3 _ rfl;(with_reducible repeat first|apply b1_|apply b2_|apply b3_);refine blk_put (cs:=#[.int .i64 t362,.int .i64 t363,.int .i64 0,.int .i64 0,.string (⟨#[]⟩ : ByteArray),.string (⟨#[]⟩ : ByteArray),.int .i64 0,.int .i64 0,.string (⟨#[]⟩ : ByteArray),.string (⟨#[]⟩ : ByteArray)]) ?_ 2 _ rfl;(with_reducible repeat first|apply b1_|apply b2_|apply b3_);refine blk_put (cs:=#[.int .i64 t362,.int .i64 0,.int .i64 0,.int .i64 0,.string (⟨#[]⟩ : ByteArray),.string (⟨#[]⟩ : ByteArray),.int .i64 0,.int .i64 0,.string (⟨#[]⟩ : ByteArray),.string (⟨#[]⟩ : ByteArray)]) ?_ 1 _ rfl;(with_reducible repeat first|apply b1_|apply b2_|apply b3_);refine blk_put (cs:=#[.int .i64 0,.int .i64 0,.int .i64 0,.int .i64 0,.string (⟨#[]⟩ : ByteArray),.string (⟨#[]⟩ : ByteArray),.int .i64 0,.int .i64 0,.string (⟨#[]⟩ : ByteArray),.string (⟨#[]⟩ : ByteArray)]) ?_ 0 _ rfl;(with_reducible repeat first|apply b1_|apply b2_|apply b3_);exact BK373.out) hb);have n4_:=m_ (l5_ (by repeat (first|(with_reducible first|exact HB.out|apply l1_|apply l2_|apply l3_|refine l4_ ?_ GE340.out|refine l4_ ?_ GE341.out|refine l4_ ?_ GE357.out|refine l4_ ?_ GE373.out)|exact HB.out)) hb);clear BK340;clear BK341;clear BK357;clear BK373;clear HB;have BK340:=n0_;have BK341:=n1_;have BK357:=n2_;have BK373:=n3_;have HB:=n4_;clear n0_ n1_ n2_ n3_ n4_;(try clear hb);(try clear hb2);(try clear hk);(try clear hi)))
    go_ret
    exact ⟨by first|rfl|(simp [errW_none,errW_some] <;> rfl)|(simp [*,errW_none,errW_some] <;> rfl)|(simp [errW_none,errW_some,pk_empty1,pk_empty2];done)|(simp [*,errW_none,errW_some,pk_empty1,pk_empty2];done),by repeat (first|(with_reducible first|exact HB.out|apply l1_|apply l2_|apply l3_|refine l4_ ?_ GE340.out|refine l4_ ?_ GE341.out|refine l4_ ?_ GE357.out|refine l4_ ?_ GE373.out)|exact HB.out)⟩

end Go.Proofs.YtclhmoghkcnkmaaDoor.A
