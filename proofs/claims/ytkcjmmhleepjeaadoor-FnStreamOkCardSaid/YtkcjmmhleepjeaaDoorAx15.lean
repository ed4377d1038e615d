-- Printed by myprint.py (wip/tools) out of the translation. Not trusted: Lean checks it.
import Derived.Test.YtkcjmmhleepjeaaDoorAx0
import Derived.Test.YtkcjmmhleepjeaaDoorAx6
import Derived.Test.YtkcjmmhleepjeaaDoorAx8
import Derived.Test.YtkcjmmhleepjeaaDoorAx9
import Derived.Test.YtkcjmmhleepjeaaDoorAx14
namespace Go.Proofs.YtkcjmmhleepjeaaDoor.A
open Go.RowKit Go.Proofs.YtkcjmmhleepjeaaDoorW.PrintWords Go.Proofs.YtkcjmmhleepjeaaDoorW.PrintLast Go.Proofs.YtkcjmmhleepjeaaDoorW.PrintMore
attribute [local go_sem] max2_int min2_int max_two min_two max_three min_three max_four min_four
set_option linter.unusedVariables false
set_option maxHeartbeats 8000000
set_option maxRecDepth 100000
set_option linter.unusedSimpArgs false

/-! ### spec_l6Open: function 39 -/
def spec_l6Open.f (l0 : List Int) : Option (List Int × Int) := if (l0.length : Int) > 2000 then (if 2000 ≤ (l0.length : Int) then (some (l0.take 2000, 0)) else (none)) else (some (l0, 0))
theorem spec_l6Open.calls (A0 : Option Addr) (c0 : Nat) (l0 : List Int) (r1 : List Int) (r2 : Int) (w0 w : World) (hB : Below w0.heap.size w0 w) (hr0 : Kd.C (Kd.int .u8) w0 A0 l0.length l0) (hc0 : l0.length ≤ c0) (h : spec_l6Open.f l0 = some (r1, r2)) :
  Calls Tryd.prog 39 #[.slice A0 l0.length c0] w fun e w'=>∃ g_ : Nat,e = .returned (.pointer (some ⟨g_,0,none⟩)) ∧ IsS85 w0 w' g_ r1 r2 ∧ Below w0.heap.size w0 w' ∧ Below w.heap.size w w':=by
 have hu85:=Tryd.underlying85
 have HR0:=m_ hr0
 have HC0:=m_ hc0
 clear hr0 hc0
 have HBW:=m_ (Below.refl w.heap.size w)
 have HW0:=m_ hB.size
 have HB:=m_ hB
 clear hB
 have H : (if (l0.length : Int) > 2000 then (if 2000 ≤ (l0.length : Int) then (some (l0.take 2000,0)) else (none)) else (some (l0,0))) = some (r1,r2):=h
 clear h
 by_cases c2 : (l0.length : Int) > 2000
 ·rw [if_pos c2] at H
  have c2b0 : decide (2000 < (l0.length : Int)) = true:=decide_eq_true c2
  have c2b1 : decide (2000 < l0.length) = true:=decide_eq_true (by omega)
  clear c2
  by_cases c3 : 2000 ≤ (l0.length : Int)
  ·rw [if_pos c3] at H
   have c3b0:=eq_true c3
   have c3b1:=decide_eq_true c3
   clear c3
   simp only [Option.some.injEq,Prod.mk.injEq] at H
   obtain ⟨rfl,rfl⟩:=H
   obtain ⟨i04,hi04,_,hsz4,_⟩:=info_parts info5
   obtain ⟨hcut4,hA4,hC4⟩:=print_take_of (P:=Tryd.prog) (Value.int .u8) 0 36 5 .i64 Tryd.underlying36 hi04 hsz4 A0 c0 l0 2000 (by omega) (of_decide_eq_true asm) HC0.out
   have HR444:=m_ (Kd.C_of_reads (h1:=fun _=>rfl) (hA4 _ (Kd.reads_of_C HR0.out)))
   have HC444:=m_ hC4
   clear hA4 hC4 hi04 hsz4
   go_enter Tryd.func39,Tryd.ntmps39
   go_wp2_with (first|((with_reducible refine gate_dst (N:=10) rfl ?_);refine box_event ?hg (N:=10) ?hd (cs:=#[.slice A0 (l0.take 2000).length c0,.int .i64 0]) (t:=85) ?hr ?_;(case hd=>rfl);(case hg=>rfl);(case hr=>first|(go_simp;done)|(go_simp;rfl));intro gb445 hg w5 hbox hb;have n0_:=m_ (l5_ HBW.out hb);have n1_:=m_ (l5_ (puL HB.out) hb);have n2_:=m_ (hbox);have n3_:=m_ ((by rw [hg];exact (l6_ (by repeat (first|(with_reducible first|exact HBW.out|apply l1_|apply l2_|apply l3_)|exact HBW.out))) : w.heap.size ≤ gb445));have n4_:=m_ ((Nat.le_trans HW0.out (by rw [hg];exact (l6_ (by repeat (first|(with_reducible first|exact HBW.out|apply l1_|apply l2_|apply l3_)|exact HBW.out))) : w.heap.size ≤ gb445) : w0.heap.size ≤ gb445));revert n0_ n1_ n2_ n3_ n4_;clear HBW HB;intro HBW HB BK445 GW445 GE445;clear hb hbox hg))
   go_ret
   exact ⟨_,rfl,(show IsS85 w0 _ gb445 (l0.take 2000) 0 from ⟨_,_,by (with_reducible repeat first|apply b1_|apply b2_|apply b3_);exact BK445.out,GE445.out,HR444.out⟩),puM HB.out GE445.out,by repeat (first|(with_reducible first|exact HBW.out|apply l1_|apply l2_|apply l3_|refine l4_ ?_ GW445.out)|exact HBW.out)⟩
  ·rw [if_neg c3] at H
   exact absurd H (by simp)
 ·rw [if_neg c2] at H
  have c2b0 : decide (2000 < (l0.length : Int)) = false:=decide_eq_false c2
  have c2b1 : decide (2000 < l0.length) = false:=decide_eq_false (by omega)
  clear c2
  simp only [Option.some.injEq,Prod.mk.injEq] at H
  obtain ⟨rfl,rfl⟩:=H
  go_enter Tryd.func39,Tryd.ntmps39
  go_wp2_with (first|((with_reducible refine gate_dst (N:=10) rfl ?_);refine box_event ?hg (N:=10) ?hd (cs:=#[.slice A0 l0.length c0,.int .i64 0]) (t:=85) ?hr ?_;(case hd=>rfl);(case hg=>rfl);(case hr=>first|(go_simp;done)|(go_simp;rfl));intro gb446 hg w6 hbox hb;have n0_:=m_ (l5_ HBW.out hb);have n1_:=m_ (l5_ (puL HB.out) hb);have n2_:=m_ (hbox);have n3_:=m_ ((by rw [hg];exact (l6_ (by repeat (first|(with_reducible first|exact HBW.out|apply l1_|apply l2_|apply l3_)|exact HBW.out))) : w.heap.size ≤ gb446));have n4_:=m_ ((Nat.le_trans HW0.out (by rw [hg];exact (l6_ (by repeat (first|(with_reducible first|exact HBW.out|apply l1_|apply l2_|apply l3_)|exact HBW.out))) : w.heap.size ≤ gb446) : w0.heap.size ≤ gb446));revert n0_ n1_ n2_ n3_ n4_;clear HBW HB;intro HBW HB BK446 GW446 GE446;clear hb hbox hg))
  go_ret
  exact ⟨_,rfl,(show IsS85 w0 _ gb446 l0 0 from ⟨_,_,by (with_reducible repeat first|apply b1_|apply b2_|apply b3_);exact BK446.out,GE446.out,HR0.out⟩),puM HB.out GE446.out,by repeat (first|(with_reducible first|exact HBW.out|apply l1_|apply l2_|apply l3_|refine l4_ ?_ GW446.out)|exact HBW.out)⟩

/-! ### spec_DrawStreamOk: function 19 -/
def spec_DrawStreamOk.f (k : Nat) (l0 : List Int) : Option (ByteArray × (List (S41))) := (spec_l6Open.f l0).bind fun bt448 => ((spec_l71Stream.f k bt448.1 bt448.2).bind fun bt451 => (some (bt451.2.1, bt451.2.2.1)))
theorem spec_DrawStreamOk.mono : ∀ a0 k, LeO (spec_DrawStreamOk.f k a0) (spec_DrawStreamOk.f (k + 1) a0) := by
 intro a0 k
 unfold spec_DrawStreamOk.f
 repeat' first
   | (with_reducible exact spec_l71Stream.mono _ _ _)
   | (with_reducible exact LeO.refl _)
   | (with_reducible exact LeO.none _)
   | (with_reducible refine LeO.ite ?_ ?_)
   | (with_reducible refine LeO.bind ?_ (fun _ => ?_))
   | exact spec_l71Stream.mono _ _ _
   | exact LeO.none _
   | refine LeO.ite ?_ ?_
   | refine LeO.bind ?_ (fun _ => ?_)
theorem spec_DrawStreamOk.calls (k : Nat) (A0 : Option Addr) (c0 : Nat) (l0 : List Int) (r1 : ByteArray) (r2 : List (S41)) (w : World) (hr0 : Kd.C (Kd.int .u8) w A0 l0.length l0) (hc0 : l0.length ≤ c0) (h : spec_DrawStreamOk.f k l0 = some (r1, r2)) :
  Calls Tryd.prog 19 #[.slice A0 l0.length c0] w fun e w'=>∃ v1_ : Value,e = .returned (.agg #[.string r1,v1_]) ∧ Kd.R k41 41 w' w.heap.size (fun _=>True) v1_ r2 ∧ Below w.heap.size w w':=by
 have hu29:=Tryd.underlying29
 have HR0:=m_ hr0
 have HC0:=m_ hc0
 clear hr0 hc0
 have HB:=m_ (Below.refl w.heap.size w)
 have H : ((spec_l6Open.f l0).bind fun bt448=>((spec_l71Stream.f k bt448.1 bt448.2).bind fun bt451=>(some (bt451.2.1,bt451.2.2.1)))) = some (r1,r2):=h
 clear h
 replace H:=Option.bind_eq_some_iff.mp H
 obtain ⟨⟨t448,t449⟩,A20,H⟩:=H
 replace H : ((spec_l71Stream.f k t448 t449).bind fun bt451=>(some (bt451.2.1,bt451.2.2.1))) = some (r1,r2):=H
 have A2:=m_ A20
 clear A20
 replace H:=Option.bind_eq_some_iff.mp H
 obtain ⟨⟨t451,t454,t455,t458⟩,A30,H⟩:=H
 replace H : (some (t454,t455)) = some (r1,r2):=H
 have A3:=m_ A30
 clear A30
 simp only [Option.some.injEq,Prod.mk.injEq] at H
 obtain ⟨rfl,rfl⟩:=H
 go_enter Tryd.func19,Tryd.ntmps19
 go_wp2_with (first|((with_reducible refine gate_dst (N:=2) rfl ?_);refine box_event ?hg (N:=2) ?hd (cs:=#[.string (⟨#[]⟩ : ByteArray),.slice none 0 0]) (t:=29) ?hr ?_;(case hd=>rfl);(case hg=>rfl);(case hr=>first|(go_simp;done)|(go_simp;rfl));intro gb447 hg w4 hbox hb;have n0_:=m_ (l5_ (puL HB.out) hb);have n1_:=m_ (hbox);have n2_:=m_ ((by rw [hg];exact (l6_ (puL HB.out)) : w.heap.size ≤ gb447));have n3_:=m_ ((by rw [hg];exact (l6_ (puL HB.out)) : w.heap.size ≤ gb447));revert n0_ n1_ n2_ n3_;clear HB;intro HB BK447 GW447 GE447;clear hb hbox hg)|((with_reducible refine gate_callee (f:=39) rfl ?_);refine goesL_ (some 7) rfl rfl Tryd.func39 (by kernel_rfl) rfl #[.slice A0 l0.length c0] rfl lens ?_;(with_reducible refine (spec_l6Open.calls _ _ l0 t448 t449 w _ ?side1 ?side2 ?side3 A2.out).mono ?_);(case side1=>repeat (first|(with_reducible first|exact HB.out|apply l1_|apply l2_|apply l3_|refine l4_ ?_ GE447.out)|exact HB.out));(case side2=>exact HR0.out);(case side3=>exact HC0.out);rintro e w5 ⟨g450,rfl,hi,hb,hb2⟩;refine ⟨_,rfl,?_⟩;have n0_:=m_ (blk_below (g:=gb447) (o:=.cells #[.string (⟨#[]⟩ : ByteArray),.slice none 0 0] 29 (0,0)) (puB BK447.out) hb2);have n1_:=m_ (hb);have n2_:=m_ (hi);have n3_:=m_ (IsS85.ne_blk hi (blk_below (g:=gb447) (o:=.cells #[.string (⟨#[]⟩ : ByteArray),.slice none 0 0] 29 (0,0)) (puB BK447.out) hb2) (by decide));have n4_:=m_ (Ne.symm (IsS85.ne_blk hi (blk_below (g:=gb447) (o:=.cells #[.string (⟨#[]⟩ : ByteArray),.slice none 0 0] 29 (0,0)) (puB BK447.out) hb2) (by decide)));revert n0_ n1_ n2_ n3_ n4_;clear BK447 HB;intro BK447 HB HI450 NB450_447 NB447_450;(try clear hb);(try clear hb2);(try clear hk);(try clear hi))|((with_reducible refine gate_callee (f:=38) rfl ?_);refine goesL_ (some 8) rfl rfl Tryd.func38 (by kernel_rfl) rfl #[.pointer (some ⟨g450,0,none⟩)] rfl lens ?_;(with_reducible refine (spec_l71Stream.calls k g450 t448 t449 t451 t454 t455 t458 w _ ?side1 ?side2 A3.out).mono ?_);(case side1=>repeat (first|(with_reducible first|exact HI450.out|apply IsS85.alloc|apply IsS85.drewN|apply IsS85.drew|apply IsS85.set_1|refine IsS85.far ?_ NB450_447.out _)|exact HI450.out));(case side2=>repeat (first|(with_reducible first|exact HB.out|apply l1_|apply l2_|apply l3_|refine l4_ ?_ (IsS85.ge HI450.out)|refine l4_ ?_ GE447.out)|exact HB.out));rintro e w6 ⟨v452,v456,rfl,ho0,ho1,hi,hb,hk⟩;refine ⟨_,rfl,?_⟩;have n0_:=m_ (KeepBut.blk hk (g':=gb447) (o:=.cells #[.string (⟨#[]⟩ : ByteArray),.slice none 0 0] 29 (0,0)) (puB BK447.out) NB447_450.out (by simp));have n1_:=m_ (Kd.Q_lower ho0 (l6_ (by repeat (first|(with_reducible first|exact HB.out|apply l1_|apply l2_|apply l3_|refine l4_ ?_ (IsS85.ge HI450.out)|refine l4_ ?_ GE447.out)|exact HB.out))));have n2_:=m_ (Kd.R_lower ho1 (l6_ (by repeat (first|(with_reducible first|exact HB.out|apply l1_|apply l2_|apply l3_|refine l4_ ?_ (IsS85.ge HI450.out)|refine l4_ ?_ GE447.out)|exact HB.out))));have n3_:=m_ (hb);have n4_:=m_ (hi);revert n0_ n1_ n2_ n3_ n4_;clear BK447 HB HI450;intro BK447 HO453 HO457 HB HI450;(try clear hb);(try clear hb2);(try clear hk);(try clear hi);(try clear ho0);(try clear ho1))|((with_reducible refine gate_dst (N:=4) rfl ?_);refine box_event ?hg (N:=4) ?hd (cs:=#[.string (⟨#[]⟩ : ByteArray),.slice none 0 0]) (t:=29) ?hr ?_;(case hd=>rfl);(case hg=>rfl);(case hr=>first|(go_simp;done)|(go_simp;rfl));intro gb459 hg w7 hbox hb;have n0_:=m_ (Kd.Q_below (puQ HO453.out) hb);have n1_:=m_ (Kd.R_below (puR HO457.out) hb);have n2_:=m_ (blk_below (g:=gb447) (o:=.cells #[.string (⟨#[]⟩ : ByteArray),.slice none 0 0] 29 (0,0)) (puB BK447.out) hb);have n3_:=m_ (IsS85.below (by repeat (first|(with_reducible first|exact HI450.out|apply IsS85.alloc|apply IsS85.drewN|apply IsS85.drew|apply IsS85.set_1|refine IsS85.far ?_ NB450_447.out _)|exact HI450.out)) hb);have n4_:=m_ (l5_ (by repeat (first|(with_reducible first|exact HB.out|apply l1_|apply l2_|apply l3_|refine l4_ ?_ (IsS85.ge HI450.out)|refine l4_ ?_ GE447.out)|exact HB.out)) hb);have n5_:=m_ (hbox);have n6_:=m_ ((by rw [hg];exact (l6_ (by repeat (first|(with_reducible first|exact HB.out|apply l1_|apply l2_|apply l3_|refine l4_ ?_ (IsS85.ge HI450.out)|refine l4_ ?_ GE447.out)|exact HB.out))) : w.heap.size ≤ gb459));have n7_:=n6_;have n8_:=m_ ((by rw [hg];exact Nat.ne_of_lt (blk_lt (g:=gb447) (o:=.cells #[.string (⟨#[]⟩ : ByteArray),.slice none 0 0] 29 (0,0)) (puB BK447.out)) : gb447 ≠ gb459));have n9_:=m_ n8_.out.symm;have n10_:=m_ ((by rw [hg];exact Nat.ne_of_lt (IsS85.lt (show IsS85 w _ g450 t448 t458 from by repeat (first|(with_reducible first|exact HI450.out|apply IsS85.alloc|apply IsS85.drewN|apply IsS85.drew|apply IsS85.set_1|refine IsS85.far ?_ NB450_447.out _)|exact HI450.out))) : g450 ≠ gb459));have n11_:=m_ n10_.out.symm;revert n0_ n1_ n2_ n3_ n4_ n5_ n6_ n7_ n8_ n9_ n10_ n11_;clear HO453 HO457 BK447 HI450 HB;intro HO453 HO457 BK447 HI450 HB BK459 GW459 GE459 NB447_459 NB459_447 NB450_459 NB459_450;clear hb hbox hg;have hnb8:=NB459_447.out;have hnc8:=NB447_459.out;have hnb9:=NB459_450.out;have hnc9:=NB450_459.out;have hcz10_0 : w7.cell? ⟨gb459,0,none⟩ = some (.string (⟨#[]⟩ : ByteArray)):=(c_ BK459.out 0).trans rfl;have hcz10_1 : w7.cell? ⟨gb459,1,none⟩ = some (.slice none 0 0):=(c_ BK459.out 1).trans rfl;have hfz10_0:=f_ BK459.out 0;have hfz10_1:=f_ BK459.out 1;obtain ⟨Ao11,co11,eo11⟩:=Kd.R_slice HO457.out;subst eo11;have hnb12:=NB447_450.out;have hnc12:=NB450_447.out;have hcz13_0 : w7.cell? ⟨gb447,0,none⟩ = some (.string (⟨#[]⟩ : ByteArray)):=(c_ BK447.out 0).trans rfl;have hcz13_1 : w7.cell? ⟨gb447,1,none⟩ = some (.slice none 0 0):=(c_ BK447.out 1).trans rfl;have hfz13_0:=f_ BK447.out 0;have hfz13_1:=f_ BK447.out 1))
 refine bodyPost_ret (results_cell_row rfl _ _ gb447 29 #[.string t454,.slice Ao11 t455.length co11] (0,0) _ rfl (by (with_reducible repeat first|apply b1_|apply b2_|apply b3_);refine blk_put (cs:=#[.string t454,.slice none 0 0]) ?_ 1 _ rfl;(with_reducible repeat first|apply b1_|apply b2_|apply b3_);refine blk_put (cs:=#[.string (⟨#[]⟩ : ByteArray),.slice none 0 0]) ?_ 0 _ rfl;(with_reducible repeat first|apply b1_|apply b2_|apply b3_);refine b4_ ?_ NB447_459.out _;(with_reducible repeat first|apply b1_|apply b2_|apply b3_);refine b4_ ?_ NB447_459.out _;(with_reducible repeat first|apply b1_|apply b2_|apply b3_);exact BK447.out) Tryd.underlying29 rfl (by kernel_rfl)) rfl ?_
 exact ⟨_,eqs,by (with_reducible repeat (first|apply Kd.R_alloc|apply Kd.R_drewN|apply Kd.R_drew));exact Kd.R_mono (Kd.R_far (p:=⟨gb447,1,none⟩) (Kd.R_far (p:=⟨gb447,0,none⟩) (Kd.R_far (p:=⟨gb459,1,none⟩) (Kd.R_far (p:=⟨gb459,0,none⟩) (Kd.R_types (Kd.R_types HO457.out BK459.out (by decide)) BK447.out (by decide)) (fun _ hk=>hk.1.2) (.string t454)) (fun _ hk=>hk.1.2) (.slice Ao11 t455.length co11)) (fun _ hk=>hk.2) (.string t454)) (fun _ hk=>hk.2) (.slice Ao11 t455.length co11)) (fun _ hk=>trivial),by repeat (first|(with_reducible first|exact HB.out|apply l1_|apply l2_|apply l3_|refine l4_ ?_ (IsS85.ge HI450.out)|refine l4_ ?_ GE447.out|refine l4_ ?_ GE459.out)|exact HB.out)⟩

/-! ### impl_TextPieces: function 20 -/
def impl_TextPieces.f (k : Nat) (a0 : ByteArray) : Option ((List (S45))) := (impl_TextOk.f a0).bind fun t460 => (if t460 = true then ((impl_pieces.f k a0).bind fun t461 => (some t461)) else (some ([] : List (S45))))
theorem impl_TextPieces.mono : ∀ a0 k, LeO (impl_TextPieces.f k a0) (impl_TextPieces.f (k + 1) a0) := by
 intro a0 k
 unfold impl_TextPieces.f
 repeat' first
   | (with_reducible exact impl_pieces.mono _ _)
   | (with_reducible exact LeO.refl _)
   | (with_reducible exact LeO.none _)
   | (with_reducible refine LeO.ite ?_ ?_)
   | (with_reducible refine LeO.bind ?_ (fun _ => ?_))
   | exact impl_pieces.mono _ _
   | exact LeO.none _
   | refine LeO.ite ?_ ?_
   | refine LeO.bind ?_ (fun _ => ?_)
theorem impl_TextPieces.calls (k : Nat) (a0 : ByteArray) (r : List (S45)) (w : World) (hG : GV w) (h : impl_TextPieces.f k a0 = some r) :
  Calls Tryd.prog 20 #[.string a0] w fun e w'=>∃ v0_ : Value,e = .returned (v0_) ∧ Kd.R k45 45 w' w.heap.size (fun _=>True) v0_ r ∧ Below w.heap.size w w':=by
 have HG:=m_ hG
 clear hG
 have HB:=m_ (Below.refl w.heap.size w)
 have H : ((impl_TextOk.f a0).bind fun t460=>(if t460 = true then ((impl_pieces.f k a0).bind fun t461=>(some t461)) else (some ([] : List (S45))))) = some r:=h
 clear h
 replace H:=Option.bind_eq_some_iff.mp H
 obtain ⟨t460,A20,H⟩:=H
 replace H : (if t460 = true then ((impl_pieces.f k a0).bind fun t461=>(some t461)) else (some ([] : List (S45)))) = some r:=H
 have A2:=m_ A20
 clear A20
 by_cases c3 : t460 = true
 ·subst c3
  have H1 : ((impl_pieces.f k a0).bind fun t461=>(some t461)) = some r:=by rw [if_pos rfl] at H;exact H
  clear H
  have H:=H1
  clear H1
  replace H:=Option.bind_eq_some_iff.mp H
  obtain ⟨t461,A40,H⟩:=H
  replace H : (some t461) = some r:=H
  have A4:=m_ A40
  clear A40
  obtain rfl:=Option.some.inj H
  go_enter Tryd.func20,Tryd.ntmps20
  go_wp2_with (first|((with_reducible refine gate_callee (f:=25) rfl ?_);refine goesL_ (some 4) rfl rfl Tryd.func25 (by kernel_rfl) rfl #[.string a0] rfl lens ?_;(with_reducible refine (impl_TextOk.calls a0 true _ A2.out).mono ?_);rintro e w5 ⟨rfl,hb⟩;refine ⟨_,rfl,?_⟩;have n0_:=m_ (l5_ (puL HB.out) hb);revert n0_;clear HB;intro HB;(try clear hb);(try clear hb2);(try clear hk);(try clear hi))|((with_reducible refine gate_callee (f:=27) rfl ?_);refine goesL_ (some 7) rfl rfl Tryd.func27 (by kernel_rfl) rfl #[.string a0] rfl lens ?_;(with_reducible refine (impl_pieces.calls k a0 t461 _ ?side1 A4.out).mono ?_);(case side1=>first|(with_reducible exact HG.out)|exact GV_below HG.out (puL HB.out));rintro e w6 ⟨v462,rfl,ho0,hb⟩;refine ⟨_,rfl,?_⟩;have n0_:=m_ (Kd.R_lower ho0 (l6_ (puL HB.out)));have n1_:=m_ (l5_ (puL HB.out) hb);revert n0_ n1_;clear HB;intro HO463 HB;(try clear hb);(try clear hb2);(try clear hk);(try clear hi);(try clear ho0)))
  go_ret
  exact ⟨_,eqs,puR HO463.out,puL HB.out⟩
 ·replace c3:=Bool.eq_false_iff.mpr c3
  subst c3
  have H1 : (some ([] : List (S45))) = some r:=by rw [if_neg (show ¬ (false = true) by decide)] at H;exact H
  clear H
  have H:=H1
  clear H1
  obtain rfl:=Option.some.inj H
  go_enter Tryd.func20,Tryd.ntmps20
  go_wp2_with (first|((with_reducible refine gate_callee (f:=25) rfl ?_);refine goesL_ (some 4) rfl rfl Tryd.func25 (by kernel_rfl) rfl #[.string a0] rfl lens ?_;(with_reducible refine (impl_TextOk.calls a0 false _ A2.out).mono ?_);rintro e w7 ⟨rfl,hb⟩;refine ⟨_,rfl,?_⟩;have n0_:=m_ (l5_ (puL HB.out) hb);revert n0_;clear HB;intro HB;(try clear hb);(try clear hb2);(try clear hk);(try clear hi)))
  go_ret
  exact ⟨_,eqs,by first|exact Kd.R_nil _ _ _ _ _|exact Kd.N_nil _ _ _ _ _|exact Kd.V_nil _ _ _ _ _|exact Kd.Q_nil _ _ _ _ _|exact Kd.S_nil _ _ _ _ _,puL HB.out⟩

end Go.Proofs.YtkcjmmhleepjeaaDoor.A
