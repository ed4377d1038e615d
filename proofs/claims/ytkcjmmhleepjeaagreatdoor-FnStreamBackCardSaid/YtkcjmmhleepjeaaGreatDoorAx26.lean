-- Printed by myprint.py (wip/tools) out of the translation. Not trusted: Lean checks it.
import Derived.Test.YtkcjmmhleepjeaaGreatDoorAx0
import Derived.Test.YtkcjmmhleepjeaaGreatDoorAx2
import Derived.Test.YtkcjmmhleepjeaaGreatDoorAx4
import Derived.Test.YtkcjmmhleepjeaaGreatDoorAx11
import Derived.Test.YtkcjmmhleepjeaaGreatDoorAx16
import Derived.Test.YtkcjmmhleepjeaaGreatDoorAx22
namespace Go.Proofs.YtkcjmmhleepjeaaGreatDoor.A
open Go.RowKit Go.Proofs.YtkcjmmhleepjeaaGreatDoorW.PrintWords Go.Proofs.YtkcjmmhleepjeaaGreatDoorW.PrintLast Go.Proofs.YtkcjmmhleepjeaaGreatDoorW.PrintMore
attribute [local go_sem] max2_int min2_int max_two min_two max_three min_three max_four min_four
set_option linter.unusedVariables false
set_option maxHeartbeats 8000000
set_option maxRecDepth 100000
set_option linter.unusedSimpArgs false

/-! ### spec_DrawStreamBack: function 13 -/
def spec_DrawStreamBack.f (k : Nat) (l0 : List Int) : Option (ByteArray × (List (S31)) × Int) := (spec_l6Open.f l0).bind fun bt518 => ((spec_l71Stream.f k bt518.1 bt518.2).bind fun bt521 => ((spec_l11Out.f k bt521.2.1 bt521.2.2.1).bind fun t530 => ((spec_l6Rd_pick.f k bt518.1 bt521.2.2.2 (wrap64 ((t530.size : Int) + 1))).bind fun bt531 => ((spec_l6Rd_pick.f k bt518.1 bt531.2 20).bind fun bt533 => (some (bt521.2.1, bt521.2.2.1, wrap64 (bt531.1 + (wrap64 ((wrap64 (Int.tdiv bt533.1 19)) * 50)))))))))
theorem spec_DrawStreamBack.mono : ∀ a0 k, LeO (spec_DrawStreamBack.f k a0) (spec_DrawStreamBack.f (k + 1) a0) := by
 intro a0 k
 unfold spec_DrawStreamBack.f
 exact leo3 spec_l11Out.mono spec_l6Rd_pick.mono spec_l71Stream.mono
def spec_DrawStreamBack.T3 : Bool × List (List Nat × List Nat) := (true, [([], []), ([], []), ([], []), ([2], [2]), ([3], [3]), ([4], [4]), ([1, 5, 3], [1, 5]), ([], []), ([7, 6], [7]), ([8], [8]), ([9], [9]), ([6, 10], [6, 10]), ([0, 8, 0], [0]), ([11, 12, 0, 1, 2, 3, 4, 5, 6, 7, 8, 9, 10, 11, 12], [11])])
def spec_DrawStreamBack.B3 : List Nat := [0, 0, 0, 4, 12, 28, 62, 0, 254, 510, 1022, 2046, 511, 8191]
theorem spec_DrawStreamBack.tab3 : rtab .any (opsOf Tryz.f13 3) = spec_DrawStreamBack.T3 := by kernel_rfl
theorem spec_DrawStreamBack.bits3 : waitsOk spec_DrawStreamBack.T3.2 spec_DrawStreamBack.B3 = true := by kernel_rfl
theorem spec_DrawStreamBack.calls (k : Nat) (A0 : Option Addr) (c0 : Nat) (l0 : List Int) (r1 : ByteArray) (r2 : List (S31)) (r3 : Int) (w : World) (hr0 : Kd.C (Kd.int .u8) w A0 l0.length l0) (hc0 : l0.length ≤ c0) (h : spec_DrawStreamBack.f k l0 = some (r1, r2, r3)) :
  Calls Tryz.prog 13 #[.slice A0 l0.length c0] w fun e w'=>∃ v1_ : Value,e = .returned (.tuple #[.agg #[.string r1,v1_],.int .i64 r3]) ∧ Kd.R k31 31 w' w.heap.size (fun _=>True) v1_ r2 ∧ Below w.heap.size w w':=by
 have hu25:=Tryz.underlying25
 have HR0:=m_ hr0
 have HC0:=m_ hc0
 clear hr0 hc0
 have HB:=m_ (Below.refl w.heap.size w)
 have H : ((spec_l6Open.f l0).bind fun bt518=>((spec_l71Stream.f k bt518.1 bt518.2).bind fun bt521=>((spec_l11Out.f k bt521.2.1 bt521.2.2.1).bind fun t530=>((spec_l6Rd_pick.f k bt518.1 bt521.2.2.2 (wrap64 ((t530.size : Int) + 1))).bind fun bt531=>((spec_l6Rd_pick.f k bt518.1 bt531.2 20).bind fun bt533=>(some (bt521.2.1,bt521.2.2.1,wrap64 (bt531.1 + (wrap64 ((wrap64 (Int.tdiv bt533.1 19)) * 50)))))))))) = some (r1,r2,r3):=h
 clear h
 replace H:=Option.bind_eq_some_iff.mp H
 obtain ⟨⟨t518,t519⟩,A20,H⟩:=H
 replace H : ((spec_l71Stream.f k t518 t519).bind fun bt521=>((spec_l11Out.f k bt521.2.1 bt521.2.2.1).bind fun t530=>((spec_l6Rd_pick.f k t518 bt521.2.2.2 (wrap64 ((t530.size : Int) + 1))).bind fun bt531=>((spec_l6Rd_pick.f k t518 bt531.2 20).bind fun bt533=>(some (bt521.2.1,bt521.2.2.1,wrap64 (bt531.1 + (wrap64 ((wrap64 (Int.tdiv bt533.1 19)) * 50))))))))) = some (r1,r2,r3):=H
 have A2:=m_ A20
 clear A20
 replace H:=Option.bind_eq_some_iff.mp H
 obtain ⟨⟨t521,t524,t525,t528⟩,A30,H⟩:=H
 replace H : ((spec_l11Out.f k t524 t525).bind fun t530=>((spec_l6Rd_pick.f k t518 t528 (wrap64 ((t530.size : Int) + 1))).bind fun bt531=>((spec_l6Rd_pick.f k t518 bt531.2 20).bind fun bt533=>(some (t524,t525,wrap64 (bt531.1 + (wrap64 ((wrap64 (Int.tdiv bt533.1 19)) * 50)))))))) = some (r1,r2,r3):=H
 have A3:=m_ A30
 clear A30
 replace H:=Option.bind_eq_some_iff.mp H
 obtain ⟨t530,A40,H⟩:=H
 have A4:=m_ A40
 clear A40
 replace H:=Option.bind_eq_some_iff.mp H
 obtain ⟨⟨t531,t532⟩,A50,H⟩:=H
 replace H : ((spec_l6Rd_pick.f k t518 t532 20).bind fun bt533=>(some (t524,t525,wrap64 (t531 + (wrap64 ((wrap64 (Int.tdiv bt533.1 19)) * 50)))))) = some (r1,r2,r3):=H
 have A5:=m_ A50
 clear A50
 replace H:=Option.bind_eq_some_iff.mp H
 obtain ⟨⟨t533,t534⟩,A60,H⟩:=H
 replace H : (some (t524,t525,wrap64 (t531 + (wrap64 ((wrap64 (Int.tdiv t533 19)) * 50))))) = some (r1,r2,r3):=H
 have A6:=m_ A60
 clear A60
 simp only [Option.some.injEq,Prod.mk.injEq] at H
 obtain ⟨rfl,rfl,rfl⟩:=H
 go_enter Tryz.func13,Tryz.ntmps13
 try go_wp2_with (first|((with_reducible refine gate_dst (N:=2) rfl ?_);refine box_event ?hg (N:=2) ?hd (cs:=#[.string (⟨#[]⟩ : ByteArray),.slice none 0 0]) (t:=25) ?hr ?_;(case hd=>rfl);(case hg=>rfl);(case hr=>first|(go_simp;done)|(go_simp;rfl));intro gb517 hg w7 hbox hb;have n0_:=m_ (l5_ (puL HB.out) hb);have n1_:=m_ (hbox);have n2_:=m_ ((by rw [hg];exact (l6_ (puL HB.out)) : w.heap.size ≤ gb517));have n3_:=m_ ((by rw [hg];exact (l6_ (puL HB.out)) : w.heap.size ≤ gb517));revert n0_ n1_ n2_ n3_;clear HB;intro HB BK517 GW517 GE517;clear hb hbox hg)|((with_reducible refine gate_callee (f:=22) rfl ?_);refine goesL_ (some 8) rfl rfl Tryz.func22 (by kernel_rfl) rfl #[.slice A0 l0.length c0] rfl lens ?_;(with_reducible refine (spec_l6Open.calls _ _ l0 t518 t519 w _ ?side1 ?side2 ?side3 A2.out).mono ?_);(case side1=>exact puM HB.out GE517.out);(case side2=>exact HR0.out);(case side3=>exact HC0.out);rintro e w8 ⟨g520,rfl,hi,hb,hb2⟩;refine ⟨_,rfl,?_⟩;have n0_:=m_ (blk_below (g:=gb517) (o:=.cells #[.string (⟨#[]⟩ : ByteArray),.slice none 0 0] 25 (0,0)) (puB BK517.out) hb2);have n1_:=m_ (hb);have n2_:=m_ (hi);have n3_:=m_ (IsS56.ne_blk hi (blk_below (g:=gb517) (o:=.cells #[.string (⟨#[]⟩ : ByteArray),.slice none 0 0] 25 (0,0)) (puB BK517.out) hb2) (by decide));have n4_:=m_ (Ne.symm (IsS56.ne_blk hi (blk_below (g:=gb517) (o:=.cells #[.string (⟨#[]⟩ : ByteArray),.slice none 0 0] 25 (0,0)) (puB BK517.out) hb2) (by decide)));revert n0_ n1_ n2_ n3_ n4_;clear BK517 HB;intro BK517 HB HI520 NB520_517 NB517_520;(try clear hb);(try clear hb2);(try clear hk);(try clear hi))|((with_reducible refine gate_callee (f:=23) rfl ?_);refine goesL_ (some 11) rfl rfl Tryz.func23 (by kernel_rfl) rfl #[.pointer (some ⟨g520,0,none⟩)] rfl lens ?_;(with_reducible refine (spec_l71Stream.calls k g520 t518 t519 t521 t524 t525 t528 w _ ?side1 ?side2 A3.out).mono ?_);(case side1=>repeat (first|(with_reducible first|exact HI520.out|apply IsS56.alloc|apply IsS56.drewN|apply IsS56.drew|apply IsS56.set_1|refine IsS56.far ?_ NB520_517.out _)|exact HI520.out));(case side2=>exact puN HB.out (IsS56.ge HI520.out) GE517.out);rintro e w9 ⟨v522,v526,rfl,ho0,ho1,hi,hb,hk⟩;refine ⟨_,rfl,?_⟩;have n0_:=m_ (KeepBut.blk hk (g':=gb517) (o:=.cells #[.string (⟨#[]⟩ : ByteArray),.slice none 0 0] 25 (0,0)) (puB BK517.out) NB517_520.out (by simp));have n1_:=m_ (Kd.Q_lower ho0 (l6_ (puN HB.out (IsS56.ge HI520.out) GE517.out)));have n2_:=m_ (Kd.R_lower ho1 (l6_ (puN HB.out (IsS56.ge HI520.out) GE517.out)));have n3_:=m_ (hb);have n4_:=m_ (hi);revert n0_ n1_ n2_ n3_ n4_;clear BK517 HB HI520;intro BK517 HO523 HO527 HB HI520;(try clear hb);(try clear hb2);(try clear hk);(try clear hi);(try clear ho0);(try clear ho1))|((with_reducible refine gate_dst (N:=6) rfl ?_);refine box_event ?hg (N:=6) ?hd (cs:=#[.string (⟨#[]⟩ : ByteArray),.slice none 0 0]) (t:=25) ?hr ?_;(case hd=>rfl);(case hg=>rfl);(case hr=>first|(go_simp;done)|(go_simp;rfl));intro gb529 hg w10 hbox hb;have n0_:=m_ (Kd.Q_below (puQ HO523.out) hb);have n1_:=m_ (Kd.R_below (puR HO527.out) hb);have n2_:=m_ (blk_below (g:=gb517) (o:=.cells #[.string (⟨#[]⟩ : ByteArray),.slice none 0 0] 25 (0,0)) (puB BK517.out) hb);have n3_:=m_ (IsS56.below (by repeat (first|(with_reducible first|exact HI520.out|apply IsS56.alloc|apply IsS56.drewN|apply IsS56.drew|apply IsS56.set_1|refine IsS56.far ?_ NB520_517.out _)|exact HI520.out)) hb);have n4_:=m_ (l5_ (puN HB.out (IsS56.ge HI520.out) GE517.out) hb);have n5_:=m_ (hbox);have n6_:=m_ ((by rw [hg];exact (l6_ (puN HB.out (IsS56.ge HI520.out) GE517.out)) : w.heap.size ≤ gb529));have n7_:=n6_;have n8_:=m_ ((by rw [hg];exact Nat.ne_of_lt (blk_lt (g:=gb517) (o:=.cells #[.string (⟨#[]⟩ : ByteArray),.slice none 0 0] 25 (0,0)) (puB BK517.out)) : gb517 ≠ gb529));have n9_:=m_ n8_.out.symm;have n10_:=m_ ((by rw [hg];exact Nat.ne_of_lt (IsS56.lt (show IsS56 w _ g520 t518 t528 from by repeat (first|(with_reducible first|exact HI520.out|apply IsS56.alloc|apply IsS56.drewN|apply IsS56.drew|apply IsS56.set_1|refine IsS56.far ?_ NB520_517.out _)|exact HI520.out))) : g520 ≠ gb529));have n11_:=m_ n10_.out.symm;revert n0_ n1_ n2_ n3_ n4_ n5_ n6_ n7_ n8_ n9_ n10_ n11_;clear HO523 HO527 BK517 HI520 HB;intro HO523 HO527 BK517 HI520 HB BK529 GW529 GE529 NB517_529 NB529_517 NB520_529 NB529_520;clear hb hbox hg;have hnb11:=NB529_517.out;have hnc11:=NB517_529.out;have hnb12:=NB529_520.out;have hnc12:=NB520_529.out;have hcz13_0 : w10.cell? ⟨gb529,0,none⟩ = some (.string (⟨#[]⟩ : ByteArray)):=(c_ BK529.out 0).trans rfl;have hcz13_1 : w10.cell? ⟨gb529,1,none⟩ = some (.slice none 0 0):=(c_ BK529.out 1).trans rfl;have hfz13_0:=f_ BK529.out 0;have hfz13_1:=f_ BK529.out 1;obtain ⟨Ao14,co14,eo14⟩:=Kd.R_slice HO527.out;subst eo14))
 have n0_ : Aside0 (Kd.Q k79 79 ((w10.setCell ⟨gb529,0,none⟩ (.string t524)).setCell ⟨gb529,1,none⟩ (.slice Ao14 t525.length co14)) w.heap.size (fun _=>True) v522 t521):=⟨by (with_reducible repeat (first|apply Kd.Q_alloc|apply Kd.Q_drewN|apply Kd.Q_drew));exact Kd.Q_mono (Kd.Q_far (p:=⟨gb529,1,none⟩) (Kd.Q_far (p:=⟨gb529,0,none⟩) (Kd.Q_types HO523.out BK529.out (by decide)) (fun _ hk=>hk.2) (.string t524)) (fun _ hk=>hk.2) (.slice Ao14 t525.length co14)) (fun _ hk=>trivial)⟩
 have n1_ : Aside0 (Kd.R k31 31 ((w10.setCell ⟨gb529,0,none⟩ (.string t524)).setCell ⟨gb529,1,none⟩ (.slice Ao14 t525.length co14)) w.heap.size (fun _=>True) (.slice Ao14 t525.length co14) t525):=⟨by (with_reducible repeat (first|apply Kd.R_alloc|apply Kd.R_drewN|apply Kd.R_drew));exact Kd.R_mono (Kd.R_far (p:=⟨gb529,1,none⟩) (Kd.R_far (p:=⟨gb529,0,none⟩) (Kd.R_types HO527.out BK529.out (by decide)) (fun _ hk=>hk.2) (.string t524)) (fun _ hk=>hk.2) (.slice Ao14 t525.length co14)) (fun _ hk=>trivial)⟩
 have n2_ : Aside0 (((w10.setCell ⟨gb529,0,none⟩ (.string t524)).setCell ⟨gb529,1,none⟩ (.slice Ao14 t525.length co14)).heap[gb517]? = some (.cells #[.string (⟨#[]⟩ : ByteArray),.slice none 0 0] 25 (0,0))):=⟨by (with_reducible repeat first|apply b1_|apply b2_|apply b3_);refine b4_ ?_ NB517_529.out _;(with_reducible repeat first|apply b1_|apply b2_|apply b3_);refine b4_ ?_ NB517_529.out _;(with_reducible repeat first|apply b1_|apply b2_|apply b3_);exact BK517.out⟩
 have n3_ : Aside0 (((w10.setCell ⟨gb529,0,none⟩ (.string t524)).setCell ⟨gb529,1,none⟩ (.slice Ao14 t525.length co14)).heap[gb529]? = some (.cells #[.string t524,.slice Ao14 t525.length co14] 25 (0,0))):=⟨by (with_reducible repeat first|apply b1_|apply b2_|apply b3_);refine blk_put (cs:=#[.string t524,.slice none 0 0]) ?_ 1 _ rfl;(with_reducible repeat first|apply b1_|apply b2_|apply b3_);refine blk_put (cs:=#[.string (⟨#[]⟩ : ByteArray),.slice none 0 0]) ?_ 0 _ rfl;(with_reducible repeat first|apply b1_|apply b2_|apply b3_);exact BK529.out⟩
 have n4_ : Aside0 (IsS56 w ((w10.setCell ⟨gb529,0,none⟩ (.string t524)).setCell ⟨gb529,1,none⟩ (.slice Ao14 t525.length co14)) g520 t518 t528):=⟨by repeat (first|(with_reducible first|exact HI520.out|apply IsS56.alloc|apply IsS56.drewN|apply IsS56.drew|apply IsS56.set_1|refine IsS56.far ?_ NB520_517.out _|refine IsS56.far ?_ NB520_529.out _)|exact HI520.out)⟩
 have n5_ : Aside0 (Below w.heap.size w ((w10.setCell ⟨gb529,0,none⟩ (.string t524)).setCell ⟨gb529,1,none⟩ (.slice Ao14 t525.length co14))):=⟨puO HB.out (IsS56.ge HI520.out) GE517.out GE529.out⟩
 (try clear HO523)
 (try clear HO527)
 (try clear BK517)
 (try clear BK529)
 (try clear HI520)
 (try clear HB)
 generalize ((w10.setCell ⟨gb529,0,none⟩ (.string t524)).setCell ⟨gb529,1,none⟩ (.slice Ao14 t525.length co14)) = w15 at n0_ n1_ n2_ n3_ n4_ n5_ ⊢
 have HO523:=n0_
 have HO527:=n1_
 have BK517:=n2_
 have BK529:=n3_
 have HI520:=n4_
 have HB:=n5_
 clear n0_ n1_ n2_ n3_ n4_ n5_
 have n0_:=m_ (Kd.Q_drew HO523.out)
 have n1_:=m_ (Kd.R_drew HO527.out)
 have n2_:=m_ (b2_ BK517.out)
 have n3_:=m_ (b2_ BK529.out)
 have n4_:=m_ (IsS56.drew HI520.out)
 have n5_:=m_ (l3_ HB.out)
 clear HO523
 clear HO527
 clear BK517
 clear BK529
 clear HI520
 clear HB
 have HO523:=n0_
 have HO527:=n1_
 have BK517:=n2_
 have BK529:=n3_
 have HI520:=n4_
 have HB:=n5_
 clear n0_ n1_ n2_ n3_ n4_ n5_
 refine start_ (n:=14) (S:=fun w'=>w'.cell? ⟨gb529,0,none⟩ = some (.string t524) ∧ w'.cell? ⟨gb529,1,none⟩ = some (.slice Ao14 t525.length co14)) (ds:=[]) #[false,false,false,false,false,false,false,false,false,false,false,false,false,false] (by kernel_rfl) rfl rfl ⟨(c_ BK529.out 0).trans rfl,(c_ BK529.out 1).trans rfl⟩ (fun hHeld=>?_);refine with_tabW spec_DrawStreamBack.tab3 spec_DrawStreamBack.bits3 (fun HT_ HW_=>?_)
 generalize w15.drew = w16 at HO523 HO527 BK517 BK529 HI520 HB hHeld ⊢
 refine pureA 1 (some 15) HT_.out ?_
 refine pureA 7 (some 21) HT_.out ?_
 refine takeA 0 (some 14) rfl rfl HT_.out HW_.out hHeld ?_ (by rintro w' ⟨s0,s1⟩;go_simp;with_reducible rfl)
 refine takeA 2 (some 16) rfl rfl HT_.out HW_.out hHeld ?_ (by rintro w' ⟨s0,s1⟩;go_simp;with_reducible rfl)
 refine one_ (i:=3) (N:=some 17) #[true,true,true,true,false,false,false,true,false,false,false,false,false,false] rfl rfl (one_of HT_.out (by kernel_rfl)) (by decide) (fun K hK=>?_)
 refine goes_ Tryz.func33 (by kernel_rfl) rfl #[.agg #[.string t524,.slice Ao14 t525.length co14]] (by rfl) rfl rfl lens ?_
 with_reducible refine (spec_l11Out.calls k t524 _ _ t525 t530 _ ?side1 ?side2 A4.out).mono ?_
 (case side1=>exact puC (Kd.R_reads' HO527.out).2.2)
 (case side2=>exact (Kd.R_reads' HO527.out).2.1)
 rintro e w17 ⟨rfl,hb⟩
 refine ⟨_,rfl,?_⟩
 have n0_:=m_ (Kd.Q_below (puQ HO523.out) hb)
 have n1_:=m_ (Kd.R_below (puR HO527.out) hb)
 have n2_:=m_ (blk_below (g:=gb517) (o:=.cells #[.string (⟨#[]⟩ : ByteArray),.slice none 0 0] 25 (0,0)) (puB BK517.out) hb)
 have n3_:=m_ (IsS56.below (by repeat (first|(with_reducible first|exact HI520.out|apply IsS56.alloc|apply IsS56.drewN|apply IsS56.drew|apply IsS56.set_1|refine IsS56.far ?_ NB520_517.out _|refine IsS56.far ?_ NB520_529.out _)|exact HI520.out)) hb)
 have n4_:=m_ (blk_below (g:=gb529) (o:=.cells #[.string t524,.slice Ao14 t525.length co14] 25 (0,0)) (puB BK529.out) hb)
 have n5_:=m_ (l5_ (puO HB.out (IsS56.ge HI520.out) GE517.out GE529.out) hb)
 clear HO523
 clear HO527
 clear BK517
 clear HI520
 clear BK529
 clear HB
 have HO523:=n0_
 have HO527:=n1_
 have BK517:=n2_
 have HI520:=n3_
 have BK529:=n4_
 have HB:=n5_
 clear n0_ n1_ n2_ n3_ n4_ n5_
 (try clear hb)
 (try clear hb2)
 (try clear hk)
 (try clear hi)
 refine hK.out _ _ ⟨(c_ BK529.out 0).trans rfl,(c_ BK529.out 1).trans rfl⟩ (fun hHeld=>?_)
 clear hK K
 refine norm_ (a':=?_) ?_ ?_
 rotate_left
 ·show Act.put _ (some 17) _ = _
  simp only [Act.put,s1_,s2_,s3_,i64_w,i32_w]
  rfl
 refine pureA 4 (some 18) HT_.out ?_
 refine pureA 5 (some 19) HT_.out ?_
 refine one_ (i:=6) (N:=some 20) #[true,true,true,true,true,true,true,true,false,false,false,false,false,false] rfl rfl (one_of HT_.out (by kernel_rfl)) (by decide) (fun K hK=>?_)
 refine goes_ Tryz.func24 (by kernel_rfl) rfl #[.pointer (some ⟨g520,0,none⟩),.int .i64 (wrap64 ((t530.size : Int) + 1))] (by rfl) rfl rfl lens ?_
 with_reducible refine (spec_l6Rd_pick.calls k g520 t518 t528 (wrap64 ((t530.size : Int) + 1)) t531 t532 w _ ?side1 ?side2 A5.out).mono ?_
 (case side1=>repeat (first|(with_reducible first|exact HI520.out|apply IsS56.alloc|apply IsS56.drewN|apply IsS56.drew|apply IsS56.set_1|refine IsS56.far ?_ NB520_517.out _|refine IsS56.far ?_ NB520_529.out _)|exact HI520.out))
 (case side2=>exact puO HB.out (IsS56.ge HI520.out) GE517.out GE529.out)
 rintro e w18 ⟨rfl,hi,hb,hk⟩
 refine ⟨_,rfl,?_⟩
 have n0_:=m_ (KeepBut.blk hk (g':=gb517) (o:=.cells #[.string (⟨#[]⟩ : ByteArray),.slice none 0 0] 25 (0,0)) (puB BK517.out) NB517_520.out (by simp))
 have n1_:=m_ (Kd.Q_mono (Kd.Q_keep (IsS56.apartQ (show IsS56 w _ g520 t518 t528 from by repeat (first|(with_reducible first|exact HI520.out|apply IsS56.alloc|apply IsS56.drewN|apply IsS56.drew|apply IsS56.set_1|refine IsS56.far ?_ NB520_517.out _|refine IsS56.far ?_ NB520_529.out _)|exact HI520.out)) (puQ HO523.out) (by decide)) hk (fun _ h=>h.2)) (fun _ h=>h.1))
 have n2_:=m_ (Kd.R_mono (Kd.R_keep (IsS56.apart (show IsS56 w _ g520 t518 t528 from by repeat (first|(with_reducible first|exact HI520.out|apply IsS56.alloc|apply IsS56.drewN|apply IsS56.drew|apply IsS56.set_1|refine IsS56.far ?_ NB520_517.out _|refine IsS56.far ?_ NB520_529.out _)|exact HI520.out)) (puR HO527.out) (by decide)) hk (fun _ h=>h.2)) (fun _ h=>h.1))
 have n3_:=m_ (KeepBut.blk hk (g':=gb529) (o:=.cells #[.string t524,.slice Ao14 t525.length co14] 25 (0,0)) (puB BK529.out) NB529_520.out (by simp))
 have n4_:=m_ (hb)
 have n5_:=m_ (hi)
 clear BK517
 clear HO523
 clear HO527
 clear BK529
 clear HB
 clear HI520
 have BK517:=n0_
 have HO523:=n1_
 have HO527:=n2_
 have BK529:=n3_
 have HB:=n4_
 have HI520:=n5_
 clear n0_ n1_ n2_ n3_ n4_ n5_
 (try clear hb)
 (try clear hb2)
 (try clear hk)
 (try clear hi)
 refine hK.out _ _ ⟨(c_ BK529.out 0).trans rfl,(c_ BK529.out 1).trans rfl⟩ (fun hHeld=>?_)
 clear hK K
 refine norm_ (a':=?_) ?_ ?_
 rotate_left
 ·show Act.put _ (some 20) _ = _
  simp only [Act.put,s1_,s2_,s3_,i64_w,i32_w]
  rfl
 refine one_ (i:=8) (N:=some 22) #[true,true,true,true,true,true,true,true,true,false,false,false,false,false] rfl rfl (one_of HT_.out (by kernel_rfl)) (by decide) (fun K hK=>?_)
 refine goes_ Tryz.func24 (by kernel_rfl) rfl #[.pointer (some ⟨g520,0,none⟩),.int .i64 20] (by rfl) rfl rfl lens ?_
 with_reducible refine (spec_l6Rd_pick.calls k g520 t518 t532 20 t533 t534 w _ ?side1 ?side2 A6.out).mono ?_
 (case side1=>repeat (first|(with_reducible first|exact HI520.out|apply IsS56.alloc|apply IsS56.drewN|apply IsS56.drew|apply IsS56.set_1|refine IsS56.far ?_ NB520_517.out _|refine IsS56.far ?_ NB520_529.out _)|exact HI520.out))
 (case side2=>exact puO HB.out (IsS56.ge HI520.out) GE517.out GE529.out)
 rintro e w19 ⟨rfl,hi,hb,hk⟩
 refine ⟨_,rfl,?_⟩
 have n0_:=m_ (KeepBut.blk hk (g':=gb517) (o:=.cells #[.string (⟨#[]⟩ : ByteArray),.slice none 0 0] 25 (0,0)) (puB BK517.out) NB517_520.out (by simp))
 have n1_:=m_ (Kd.Q_mono (Kd.Q_keep (IsS56.apartQ (show IsS56 w _ g520 t518 t532 from by repeat (first|(with_reducible first|exact HI520.out|apply IsS56.alloc|apply IsS56.drewN|apply IsS56.drew|apply IsS56.set_1|refine IsS56.far ?_ NB520_517.out _|refine IsS56.far ?_ NB520_529.out _)|exact HI520.out)) (puQ HO523.out) (by decide)) hk (fun _ h=>h.2)) (fun _ h=>h.1))
 have n2_:=m_ (Kd.R_mono (Kd.R_keep (IsS56.apart (show IsS56 w _ g520 t518 t532 from by repeat (first|(with_reducible first|exact HI520.out|apply IsS56.alloc|apply IsS56.drewN|apply IsS56.drew|apply IsS56.set_1|refine IsS56.far ?_ NB520_517.out _|refine IsS56.far ?_ NB520_529.out _)|exact HI520.out)) (puR HO527.out) (by decide)) hk (fun _ h=>h.2)) (fun _ h=>h.1))
 have n3_:=m_ (KeepBut.blk hk (g':=gb529) (o:=.cells #[.string t524,.slice Ao14 t525.length co14] 25 (0,0)) (puB BK529.out) NB529_520.out (by simp))
 have n4_:=m_ (hb)
 have n5_:=m_ (hi)
 clear BK517
 clear HO523
 clear HO527
 clear BK529
 clear HB
 clear HI520
 have BK517:=n0_
 have HO523:=n1_
 have HO527:=n2_
 have BK529:=n3_
 have HB:=n4_
 have HI520:=n5_
 clear n0_ n1_ n2_ n3_ n4_ n5_
 (try clear hb)
 (try clear hb2)
 (try clear hk)
 (try clear hi)
 refine hK.out _ _ ⟨(c_ BK529.out 0).trans rfl,(c_ BK529.out 1).trans rfl⟩ (fun hHeld=>?_)
 clear hK K
 refine norm_ (a':=?_) ?_ ?_
 rotate_left
 ·show Act.put _ (some 22) _ = _
  simp only [Act.put,s1_,s2_,s3_,i64_w,i32_w]
  rfl
 refine pureA 9 (some 23) HT_.out ?_
 refine pureA 10 (some 24) HT_.out ?_
 refine pureA 11 (some 25) HT_.out ?_
 refine one_ (i:=12) (N:=none) #[true,true,true,true,true,true,true,true,true,true,true,true,true,false] rfl rfl (one_of HT_.out (by kernel_rfl)) (by decide) (fun K hK=>?_)
 have hs20 : w19.cell? ⟨gb517,0,none⟩ = some (.string (⟨#[]⟩ : ByteArray)):=(c_ BK517.out 0).trans rfl
 have hfs20:=f_ BK517.out 0
 have hns20_1:=NB529_517.out
 have hms20_1:=NB517_529.out
 have hs21 : w19.cell? ⟨gb517,1,none⟩ = some (.slice none 0 0):=(c_ BK517.out 1).trans rfl
 have hfs21:=f_ BK517.out 1
 have hns21_1:=NB529_517.out
 have hms21_1:=NB517_529.out
 refine skip_ (w1:=?_) (by rfl) rfl ?_ ?_
 rotate_left
 ·go_simp
  rfl
 refine hK.out _ _ ⟨((cell_far (p:=⟨gb517,_,none⟩) NB529_517.out _).trans (((cell_far (p:=⟨gb517,_,none⟩) NB529_517.out _).trans (hHeld.1)))),((cell_far (p:=⟨gb517,_,none⟩) NB529_517.out _).trans (((cell_far (p:=⟨gb517,_,none⟩) NB529_517.out _).trans (hHeld.2))))⟩ (fun hHeld=>?_)
 clear hK K
 refine pureA 13 (some 3) HT_.out ?_
 refine done_ (done_of HT_.out (by kernel_rfl)) ?_
 try go_wp2
 refine bodyPost_ret (results_ct rfl _ _ gb517 25 #[.string t524,.slice Ao14 t525.length co14] (0,0) _ rfl (by (with_reducible repeat first|apply b1_|apply b2_|apply b3_);refine blk_put (cs:=#[.string t524,.slice none 0 0]) ?_ 1 _ rfl;(with_reducible repeat first|apply b1_|apply b2_|apply b3_);refine blk_put (cs:=#[.string (⟨#[]⟩ : ByteArray),.slice none 0 0]) ?_ 0 _ rfl;(with_reducible repeat first|apply b1_|apply b2_|apply b3_);exact BK517.out) Tryz.underlying25 rfl (by kernel_rfl)) rfl ?_
 exact ⟨_,eqs,by (with_reducible repeat (first|apply Kd.R_alloc|apply Kd.R_drewN|apply Kd.R_drew));exact Kd.R_mono (Kd.R_far (p:=⟨gb517,1,none⟩) (Kd.R_far (p:=⟨gb517,0,none⟩) (Kd.R_types HO527.out BK517.out (by decide)) (fun _ hk=>hk.2) (.string t524)) (fun _ hk=>hk.2) (.slice Ao14 t525.length co14)) (fun _ hk=>trivial),puO HB.out (IsS56.ge HI520.out) GE517.out GE529.out⟩

/-! ### spec_l11Back: function 34 -/
def spec_l11Back.l0 : Nat → Int → Int → Int → ByteArray → List (S31) → Option (Int)
 | 0, _, _, _, _, _ => none
 | k + 1, x1, x5, x6, x536000, x536001 => if x6 < (x536001.length : Int) then (if 0 ≤ x6 then (if (((rd_T31 x536001 x6).f1).size : Int) ≤ x1 then (spec_l11Back.l0 k (wrap64 (x1 - (((rd_T31 x536001 x6).f1).size : Int))) (wrap64 (x5 + ((rd_T31 x536001 x6).f0))) (wrap64 (x6 + 1)) x536000 x536001) else (some x5)) else (none)) else (some x5)
def spec_l11Back.f (k : Nat) (a0_0 : ByteArray) (l0_1 : List (S31)) (a1 : Int) : Option (Int) := spec_l11Back.l0 k a1 0 0 a0_0 l0_1
theorem spec_l11Back.mono_l : ∀ k, (∀ y0 y1 y2 y3 y4, LeO (spec_l11Back.l0 k y0 y1 y2 y3 y4) (spec_l11Back.l0 (k + 1) y0 y1 y2 y3 y4))
 | 0 => fun _ _ _ _ _ r h => by simp [spec_l11Back.l0] at h
 | k + 1 => by
  have ih0:=spec_l11Back.mono_l k
  ·intro y0 y1 y2 y3 y4
   unfold spec_l11Back.l0
   exact leo1 ih0
theorem spec_l11Back.mono : ∀ a0 a1 a2 k, LeO (spec_l11Back.f k a0 a1 a2) (spec_l11Back.f (k + 1) a0 a1 a2) := by
 intro a0 a1 a2 k
 have ih0:=spec_l11Back.mono_l k
 unfold spec_l11Back.f
 exact leo1 ih0
theorem spec_l11Back.calls (k : Nat) (a0_0 : ByteArray) (A0_1 : Option Addr) (c0_1 : Nat) (l0_1 : List (S31)) (a1 : Int) (r : Int) (w : World) (hr0_1 : Kd.C k31 w A0_1 l0_1.length l0_1) (hc0_1 : l0_1.length ≤ c0_1) (h : spec_l11Back.f k a0_0 l0_1 a1 = some r) :
  Calls Tryz.prog 34 #[.agg #[.string a0_0,.slice A0_1 l0_1.length c0_1],.int .i64 a1] w fun e w'=>e = .returned (.int .i64 r) ∧ Below w.heap.size w w':=by
 have hu25:=Tryz.underlying25
 have HR0_1:=m_ hr0_1
 have HC0_1:=m_ hc0_1
 clear hr0_1 hc0_1
 have HB:=m_ (Below.refl w.heap.size w)
 have H : (spec_l11Back.l0 k a1 0 0 a0_0 l0_1) = some r:=h
 clear h
 have H':=m_ H
 clear H
 go_enter Tryz.func34,Tryz.ntmps34
 go_wp2_with (first|((with_reducible refine gate_dst (N:=2) rfl ?_);(try (refine gate_guard (by rfl) ?_;dsimp only));refine box_event ?hg (N:=2) ?hd (cs:=#[.string a0_0,.slice A0_1 l0_1.length c0_1]) (t:=25) ?hr ?_;(case hd=>rfl);(case hg=>rfl);(case hr=>first|(go_simp;done)|(go_simp;rfl));intro gb535 hg w3 hbox hb;have n0_:=m_ (l5_ (puL HB.out) hb);have n1_:=m_ (hbox);have n2_:=m_ ((by rw [hg];exact (l6_ (puL HB.out)) : w.heap.size ≤ gb535));have n3_:=n2_;revert n0_ n1_ n2_ n3_;clear HB;intro HB BK535 GW535 GE535;clear hb hbox hg))
 go_loopg [1,5,6] k (fun kq v1 v5 v6 w'=>∃ (x1_1 : Int) (x5_1 : Int) (x6_1 : Int),v1 = .int .i64 x1_1 ∧ v5 = .int .i64 x5_1 ∧ v6 = .int .i64 x6_1 ∧ Aside0 (spec_l11Back.l0 kq x1_1 x5_1 x6_1 a0_0 l0_1 = some r) ∧ Aside0 (kq ≤ k) ∧ Aside0 (w'.heap[gb535]? = some (.cells #[.string a0_0,(.slice A0_1 l0_1.length c0_1)] 25 (0,0))) ∧ Aside0 (Below w.heap.size w w'))
 case atStart=>exact ⟨(a1),(0),(0),(by first|rfl|(simp;done)|(simp [*];done)),(by first|rfl|(simp;done)|(simp [*];done)),(by first|rfl|(simp;done)|(simp [*];done)),H',⟨Nat.le_refl _⟩,⟨by (with_reducible repeat first|apply b1_|apply b2_|apply b3_);exact BK535.out⟩,⟨puM HB.out GE535.out⟩⟩
 case round =>
  clear H'
  try clear p2
  try clear c3
  obtain ⟨x1_1,x5_1,x6_1,rfl,rfl,rfl,HA,HK1,BK535,HB⟩:=hrel
  cases gk with
  | zero => exact absurd HA.out (by simp [spec_l11Back.l0])
  | succ k1 =>
   have H:=HA.out
   clear HA
   simp only [spec_l11Back.l0] at H
   by_cases c4 : x6_1 < (l0_1.length : Int)
   ·rw [if_pos c4] at H
    have c4b0 : decide (x6_1 < (l0_1.length : Int)) = true:=decide_eq_true c4
    clear c4
    by_cases c5 : 0 ≤ x6_1
    rotate_left
    ·rw [if_neg c5] at H
     exact absurd H (by simp)
    rw [if_pos c5] at H
    have c5b0 : decide (0 ≤ x6_1) = true:=decide_eq_true c5
    clear c5
    by_cases c6 : (((rd_T31 l0_1 x6_1).f1).size : Int) ≤ x1_1
    ·rw [if_pos c6] at H
     have c6b0 : decide ((((rd_T31 l0_1 x6_1).f1).size : Int) ≤ x1_1) = true:=decide_eq_true c6
     clear c6
     have H':=m_ H
     clear H
     have hcz7_0 : wr.cell? ⟨gb535,0,none⟩ = some (.string a0_0):=(c_ BK535.out 0).trans rfl
     have hcz7_1 : wr.cell? ⟨gb535,1,none⟩ = some (.slice A0_1 l0_1.length c0_1):=(c_ BK535.out 1).trans rfl
     have p536 : 0 ≤ (x6_1 : Int):=of_decide_eq_true asm
     have q536 : x6_1 < (l0_1.length : Int):=of_decide_eq_true asm
     obtain ⟨ad536,e536,hx536_0,hx536_1⟩:=at_T31 HR0_1.out x6_1 p536 q536
     cases e536
     replace hx536_0:=(HB.out.cell (World.block_lt_of_cell? w _ hx536_0)).trans hx536_0
     replace hx536_1:=(HB.out.cell (World.block_lt_of_cell? w _ hx536_1)).trans hx536_1
     replace p536:=eq_true p536
     replace q536:=eq_true q536
     have p537 : 0 ≤ (x6_1 : Int):=of_decide_eq_true asm
     have q537 : x6_1 < (l0_1.length : Int):=of_decide_eq_true asm
     obtain ⟨ad537,e537,hx537_0,hx537_1⟩:=at_T31 HR0_1.out x6_1 p537 q537
     obtain rfl : ad536 = ad537:=(by injection e537)
     replace hx537_0:=(HB.out.cell (World.block_lt_of_cell? w _ hx537_0)).trans hx537_0
     replace hx537_1:=(HB.out.cell (World.block_lt_of_cell? w _ hx537_1)).trans hx537_1
     replace p537:=eq_true p537
     replace q537:=eq_true q537
     have p538 : 0 ≤ (x6_1 : Int):=of_decide_eq_true asm
     have q538 : x6_1 < (l0_1.length : Int):=of_decide_eq_true asm
     obtain ⟨ad538,e538,hx538_0,hx538_1⟩:=at_T31 HR0_1.out x6_1 p538 q538
     obtain rfl : ad536 = ad538:=(by injection e538)
     replace hx538_0:=(HB.out.cell (World.block_lt_of_cell? w _ hx538_0)).trans hx538_0
     replace hx538_1:=(HB.out.cell (World.block_lt_of_cell? w _ hx538_1)).trans hx538_1
     replace p538:=eq_true p538
     replace q538:=eq_true q538
     go_wp2
     go_roundg k1
     case measure=>have:=HK1.out;omega
     case rel=>exact ⟨(wrap64 (x1_1 - (((rd_T31 l0_1 x6_1).f1).size : Int))),(wrap64 (x5_1 + ((rd_T31 l0_1 x6_1).f0))),(wrap64 (x6_1 + 1)),(by first|rfl|(simp;done)|(simp [*];done)),(by first|rfl|(simp;done)|(simp [*];done)),(by first|rfl|(simp;done)|(simp [*];done)),H',⟨by have:=HK1.out;omega⟩,⟨by (with_reducible repeat first|apply b1_|apply b2_|apply b3_);exact BK535.out⟩,⟨puM HB.out GE535.out⟩⟩
    ·rw [if_neg c6] at H
     have c6b0 : decide ((((rd_T31 l0_1 x6_1).f1).size : Int) ≤ x1_1) = false:=decide_eq_false c6
     clear c6
     obtain rfl:=Option.some.inj H
     have hcz8_0 : wr.cell? ⟨gb535,0,none⟩ = some (.string a0_0):=(c_ BK535.out 0).trans rfl
     have hcz8_1 : wr.cell? ⟨gb535,1,none⟩ = some (.slice A0_1 l0_1.length c0_1):=(c_ BK535.out 1).trans rfl
     have p536 : 0 ≤ (x6_1 : Int):=of_decide_eq_true asm
     have q536 : x6_1 < (l0_1.length : Int):=of_decide_eq_true asm
     obtain ⟨ad536,e536,hx536_0,hx536_1⟩:=at_T31 HR0_1.out x6_1 p536 q536
     cases e536
     replace hx536_0:=(HB.out.cell (World.block_lt_of_cell? w _ hx536_0)).trans hx536_0
     replace hx536_1:=(HB.out.cell (World.block_lt_of_cell? w _ hx536_1)).trans hx536_1
     replace p536:=eq_true p536
     replace q536:=eq_true q536
     go_wp2
     go_ret
     exact ⟨eqs,puM HB.out GE535.out⟩
   ·rw [if_neg c4] at H
    have c4b0 : decide (x6_1 < (l0_1.length : Int)) = false:=decide_eq_false c4
    clear c4
    obtain rfl:=Option.some.inj H
    have hcz9_0 : wr.cell? ⟨gb535,0,none⟩ = some (.string a0_0):=(c_ BK535.out 0).trans rfl
    have hcz9_1 : wr.cell? ⟨gb535,1,none⟩ = some (.slice A0_1 l0_1.length c0_1):=(c_ BK535.out 1).trans rfl
    go_wp2
    go_ret
    exact ⟨eqs,puM HB.out GE535.out⟩

/-! ### spec_StreamBack: function 14 -/
def spec_StreamBack.f (k : Nat) (a0_0 : ByteArray) (l0_1 : List (S31)) (a1 : Int) : Option (Int) := (spec_StreamOk.f k a0_0 l0_1).bind fun t540 => (if t540 = true then ((spec_l11Out.f k a0_0 l0_1).bind fun t541 => ((spec_l6In.f a1 0 (t541.size : Int)).bind fun t542 => (if t542 = true then ((spec_l11Back.f k a0_0 l0_1 a1).bind fun t543 => (some t543)) else (some (-1))))) else (some (-1)))
theorem spec_StreamBack.mono : ∀ a0 a1 a2 k, LeO (spec_StreamBack.f k a0 a1 a2) (spec_StreamBack.f (k + 1) a0 a1 a2) := by
 intro a0 a1 a2 k
 unfold spec_StreamBack.f
 exact leo3 spec_StreamOk.mono spec_l11Back.mono spec_l11Out.mono
theorem spec_StreamBack.calls (k : Nat) (a0_0 : ByteArray) (A0_1 : Option Addr) (c0_1 : Nat) (l0_1 : List (S31)) (a1 : Int) (r : Int) (w : World) (hr0_1 : Kd.C k31 w A0_1 l0_1.length l0_1) (hc0_1 : l0_1.length ≤ c0_1) (h : spec_StreamBack.f k a0_0 l0_1 a1 = some r) :
  Calls Tryz.prog 14 #[.agg #[.string a0_0,.slice A0_1 l0_1.length c0_1],.int .i64 a1] w fun e w'=>e = .returned (.int .i64 r) ∧ Below w.heap.size w w':=by
 have hu25:=Tryz.underlying25
 have HR0_1:=m_ hr0_1
 have HC0_1:=m_ hc0_1
 clear hr0_1 hc0_1
 have HB:=m_ (Below.refl w.heap.size w)
 have H : ((spec_StreamOk.f k a0_0 l0_1).bind fun t540=>(if t540 = true then ((spec_l11Out.f k a0_0 l0_1).bind fun t541=>((spec_l6In.f a1 0 (t541.size : Int)).bind fun t542=>(if t542 = true then ((spec_l11Back.f k a0_0 l0_1 a1).bind fun t543=>(some t543)) else (some (-1))))) else (some (-1)))) = some r:=h
 clear h
 replace H:=Option.bind_eq_some_iff.mp H
 obtain ⟨t540,A30,H⟩:=H
 have A3:=m_ A30
 clear A30
 by_cases c4 : t540 = true
 ·subst c4
  replace H:=ifp H rfl
  replace H:=Option.bind_eq_some_iff.mp H
  obtain ⟨t541,A50,H⟩:=H
  have A5:=m_ A50
  clear A50
  replace H:=Option.bind_eq_some_iff.mp H
  obtain ⟨t542,A60,H⟩:=H
  have A6:=m_ A60
  clear A60
  by_cases c7 : t542 = true
  ·subst c7
   replace H:=ifp H rfl
   replace H:=Option.bind_eq_some_iff.mp H
   obtain ⟨t543,A80,H⟩:=H
   have A8:=m_ A80
   clear A80
   obtain rfl:=Option.some.inj H
   go_enter Tryz.func14,Tryz.ntmps14
   go_wp2_with (first|((with_reducible refine gate_dst (N:=2) rfl ?_);(try (refine gate_guard (by rfl) ?_;dsimp only));refine box_event ?hg (N:=2) ?hd (cs:=#[.string a0_0,.slice A0_1 l0_1.length c0_1]) (t:=25) ?hr ?_;(case hd=>rfl);(case hg=>rfl);(case hr=>first|(go_simp;done)|(go_simp;rfl));intro gb539 hg w9 hbox hb;have n0_:=m_ (l5_ (puL HB.out) hb);have n1_:=m_ (hbox);have n2_:=m_ ((by rw [hg];exact (l6_ (puL HB.out)) : w.heap.size ≤ gb539));have n3_:=m_ ((by rw [hg];exact (l6_ (puL HB.out)) : w.heap.size ≤ gb539));revert n0_ n1_ n2_ n3_;clear HB;intro HB BK539 GW539 GE539;clear hb hbox hg;have hcz10_0 : w9.cell? ⟨gb539,0,none⟩ = some (.string a0_0):=(c_ BK539.out 0).trans rfl;have hcz10_1 : w9.cell? ⟨gb539,1,none⟩ = some (.slice A0_1 l0_1.length c0_1):=(c_ BK539.out 1).trans rfl)|((with_reducible refine gate_callee (f:=11) rfl ?_);refine goesL_ (some 6) rfl rfl Tryz.func11 (by kernel_rfl) rfl #[.agg #[.string a0_0,.slice A0_1 l0_1.length c0_1]] rfl lens ?_;(with_reducible refine (spec_StreamOk.calls k a0_0 _ _ l0_1 true _ ?side1 ?side2 A3.out).mono ?_);(case side1=>exact puC (Kd.C_below HR0_1.out HB.out));(case side2=>exact HC0_1.out);rintro e w11 ⟨rfl,hb⟩;refine ⟨_,rfl,?_⟩;have n0_:=m_ (blk_below (g:=gb539) (o:=.cells #[.string a0_0,.slice A0_1 l0_1.length c0_1] 25 (0,0)) (puB BK539.out) hb);have n1_:=m_ (l5_ (puM HB.out GE539.out) hb);revert n0_ n1_;clear BK539 HB;intro BK539 HB;(try clear hb);(try clear hb2);(try clear hk);(try clear hi);have hcz12_0 : w11.cell? ⟨gb539,0,none⟩ = some (.string a0_0):=(c_ BK539.out 0).trans rfl;have hcz12_1 : w11.cell? ⟨gb539,1,none⟩ = some (.slice A0_1 l0_1.length c0_1):=(c_ BK539.out 1).trans rfl)|(go_at_call 33;(with_reducible refine (spec_l11Out.calls k a0_0 _ _ l0_1 t541 _ ?side1 ?side2 A5.out).mono ?_);(case side1=>exact puC (Kd.C_below HR0_1.out HB.out));(case side2=>exact HC0_1.out);rintro e w13 ⟨rfl,hb⟩;have n0_:=m_ (blk_below (g:=gb539) (o:=.cells #[.string a0_0,.slice A0_1 l0_1.length c0_1] 25 (0,0)) (puB BK539.out) hb);have n1_:=m_ (l5_ (puM HB.out GE539.out) hb);revert n0_ n1_;clear BK539 HB;intro BK539 HB;(try clear hb);(try clear hb2);(try clear hk);(try clear hi))|(go_at_call 27;(with_reducible refine (spec_l6In.calls a1 0 (t541.size : Int) true _ A6.out).mono ?_);rintro e w' ⟨rfl,⟨nd,rfl⟩⟩;have hcz14_0 : w13.cell? ⟨gb539,0,none⟩ = some (.string a0_0):=(c_ BK539.out 0).trans rfl;have hcz14_1 : w13.cell? ⟨gb539,1,none⟩ = some (.slice A0_1 l0_1.length c0_1):=(c_ BK539.out 1).trans rfl)|((with_reducible refine gate_callee (f:=34) rfl ?_);refine goesL_ (some 18) rfl rfl Tryz.func34 (by kernel_rfl) rfl #[.agg #[.string a0_0,.slice A0_1 l0_1.length c0_1],.int .i64 a1] rfl lens ?_;(with_reducible refine (spec_l11Back.calls k a0_0 _ _ l0_1 a1 t543 _ ?side1 ?side2 A8.out).mono ?_);(case side1=>repeat (first|exact (Kd.C_below HR0_1.out (puM HB.out GE539.out))|(with_reducible refine Kd.C_alloc ?_ _)|(with_reducible refine Kd.C_drewN ?_ _)|(with_reducible refine Kd.C_drew ?_)));(case side2=>exact HC0_1.out);rintro e w15 ⟨rfl,hb⟩;refine ⟨_,rfl,?_⟩;have n0_:=m_ (blk_below (g:=gb539) (o:=.cells #[.string a0_0,.slice A0_1 l0_1.length c0_1] 25 (0,0)) (puB BK539.out) hb);have n1_:=m_ (l5_ (puM HB.out GE539.out) hb);revert n0_ n1_;clear BK539 HB;intro BK539 HB;(try clear hb);(try clear hb2);(try clear hk);(try clear hi)))
   go_ret
   exact ⟨eqs,puM HB.out GE539.out⟩
  ·replace c7:=Bool.eq_false_iff.mpr c7
   subst c7
   replace H:=ifn H
   obtain rfl:=Option.some.inj H
   go_enter Tryz.func14,Tryz.ntmps14
   go_wp2_with (first|((with_reducible refine gate_dst (N:=2) rfl ?_);(try (refine gate_guard (by rfl) ?_;dsimp only));refine box_event ?hg (N:=2) ?hd (cs:=#[.string a0_0,.slice A0_1 l0_1.length c0_1]) (t:=25) ?hr ?_;(case hd=>rfl);(case hg=>rfl);(case hr=>first|(go_simp;done)|(go_simp;rfl));intro gb539 hg w16 hbox hb;have n0_:=m_ (l5_ (puL HB.out) hb);have n1_:=m_ (hbox);have n2_:=m_ ((by rw [hg];exact (l6_ (puL HB.out)) : w.heap.size ≤ gb539));have n3_:=m_ ((by rw [hg];exact (l6_ (puL HB.out)) : w.heap.size ≤ gb539));revert n0_ n1_ n2_ n3_;clear HB;intro HB BK539 GW539 GE539;clear hb hbox hg;have hcz17_0 : w16.cell? ⟨gb539,0,none⟩ = some (.string a0_0):=(c_ BK539.out 0).trans rfl;have hcz17_1 : w16.cell? ⟨gb539,1,none⟩ = some (.slice A0_1 l0_1.length c0_1):=(c_ BK539.out 1).trans rfl)|((with_reducible refine gate_callee (f:=11) rfl ?_);refine goesL_ (some 6) rfl rfl Tryz.func11 (by kernel_rfl) rfl #[.agg #[.string a0_0,.slice A0_1 l0_1.length c0_1]] rfl lens ?_;(with_reducible refine (spec_StreamOk.calls k a0_0 _ _ l0_1 true _ ?side1 ?side2 A3.out).mono ?_);(case side1=>exact puC (Kd.C_below HR0_1.out HB.out));(case side2=>exact HC0_1.out);rintro e w18 ⟨rfl,hb⟩;refine ⟨_,rfl,?_⟩;have n0_:=m_ (blk_below (g:=gb539) (o:=.cells #[.string a0_0,.slice A0_1 l0_1.length c0_1] 25 (0,0)) (puB BK539.out) hb);have n1_:=m_ (l5_ (puM HB.out GE539.out) hb);revert n0_ n1_;clear BK539 HB;intro BK539 HB;(try clear hb);(try clear hb2);(try clear hk);(try clear hi);have hcz19_0 : w18.cell? ⟨gb539,0,none⟩ = some (.string a0_0):=(c_ BK539.out 0).trans rfl;have hcz19_1 : w18.cell? ⟨gb539,1,none⟩ = some (.slice A0_1 l0_1.length c0_1):=(c_ BK539.out 1).trans rfl)|(go_at_call 33;(with_reducible refine (spec_l11Out.calls k a0_0 _ _ l0_1 t541 _ ?side1 ?side2 A5.out).mono ?_);(case side1=>exact puC (Kd.C_below HR0_1.out HB.out));(case side2=>exact HC0_1.out);rintro e w20 ⟨rfl,hb⟩;have n0_:=m_ (blk_below (g:=gb539) (o:=.cells #[.string a0_0,.slice A0_1 l0_1.length c0_1] 25 (0,0)) (puB BK539.out) hb);have n1_:=m_ (l5_ (puM HB.out GE539.out) hb);revert n0_ n1_;clear BK539 HB;intro BK539 HB;(try clear hb);(try clear hb2);(try clear hk);(try clear hi))|(go_at_call 27;(with_reducible refine (spec_l6In.calls a1 0 (t541.size : Int) false _ A6.out).mono ?_);rintro e w' ⟨rfl,⟨nd,rfl⟩⟩))
   go_ret
   exact ⟨eqs,puM HB.out GE539.out⟩
 ·replace c4:=Bool.eq_false_iff.mpr c4
  subst c4
  replace H:=ifn H
  obtain rfl:=Option.some.inj H
  go_enter Tryz.func14,Tryz.ntmps14
  go_wp2_with (first|((with_reducible refine gate_dst (N:=2) rfl ?_);(try (refine gate_guard (by rfl) ?_;dsimp only));refine box_event ?hg (N:=2) ?hd (cs:=#[.string a0_0,.slice A0_1 l0_1.length c0_1]) (t:=25) ?hr ?_;(case hd=>rfl);(case hg=>rfl);(case hr=>first|(go_simp;done)|(go_simp;rfl));intro gb539 hg w21 hbox hb;have n0_:=m_ (l5_ (puL HB.out) hb);have n1_:=m_ (hbox);have n2_:=m_ ((by rw [hg];exact (l6_ (puL HB.out)) : w.heap.size ≤ gb539));have n3_:=m_ ((by rw [hg];exact (l6_ (puL HB.out)) : w.heap.size ≤ gb539));revert n0_ n1_ n2_ n3_;clear HB;intro HB BK539 GW539 GE539;clear hb hbox hg;have hcz22_0 : w21.cell? ⟨gb539,0,none⟩ = some (.string a0_0):=(c_ BK539.out 0).trans rfl;have hcz22_1 : w21.cell? ⟨gb539,1,none⟩ = some (.slice A0_1 l0_1.length c0_1):=(c_ BK539.out 1).trans rfl)|((with_reducible refine gate_callee (f:=11) rfl ?_);refine goesL_ (some 6) rfl rfl Tryz.func11 (by kernel_rfl) rfl #[.agg #[.string a0_0,.slice A0_1 l0_1.length c0_1]] rfl lens ?_;(with_reducible refine (spec_StreamOk.calls k a0_0 _ _ l0_1 false _ ?side1 ?side2 A3.out).mono ?_);(case side1=>exact puC (Kd.C_below HR0_1.out HB.out));(case side2=>exact HC0_1.out);rintro e w23 ⟨rfl,hb⟩;refine ⟨_,rfl,?_⟩;have n0_:=m_ (blk_below (g:=gb539) (o:=.cells #[.string a0_0,.slice A0_1 l0_1.length c0_1] 25 (0,0)) (puB BK539.out) hb);have n1_:=m_ (l5_ (puM HB.out GE539.out) hb);revert n0_ n1_;clear BK539 HB;intro BK539 HB;(try clear hb);(try clear hb2);(try clear hk);(try clear hi)))
  go_ret
  exact ⟨eqs,puM HB.out GE539.out⟩

end Go.Proofs.YtkcjmmhleepjeaaGreatDoor.A
