-- Printed by myprint.py (wip/tools) out of the translation. Not trusted: Lean checks it.
import Derived.Test.YtkcjmmhleepjeaaGreatDoorAx0
import Derived.Test.YtkcjmmhleepjeaaGreatDoorAx2
import Derived.Test.YtkcjmmhleepjeaaGreatDoorAx4
import Derived.Test.YtkcjmmhleepjeaaGreatDoorAx11
import Derived.Test.YtkcjmmhleepjeaaGreatDoorAx16
namespace Go.Proofs.YtkcjmmhleepjeaaGreatDoor.A
open Go.RowKit Go.Proofs.YtkcjmmhleepjeaaGreatDoorW.PrintWords Go.Proofs.YtkcjmmhleepjeaaGreatDoorW.PrintLast Go.Proofs.YtkcjmmhleepjeaaGreatDoorW.PrintMore
attribute [local go_sem] max2_int min2_int max_two min_two max_three min_three max_four min_four
set_option linter.unusedVariables false
set_option maxHeartbeats 8000000
set_option maxRecDepth 100000
set_option linter.unusedSimpArgs false

/-! ### spec_DrawStreamFor: function 8 -/
def spec_DrawStreamFor.f (k : Nat) (l0 : List Int) : Option (ByteArray × (List (S31)) × Int) := (spec_l6Open.f l0).bind fun bt344 => ((spec_l71Stream.f k bt344.1 bt344.2).bind fun bt347 => ((spec_l6Rd_pick.f k bt344.1 bt347.2.2.2 (wrap64 ((bt347.2.1.size : Int) + 1))).bind fun bt356 => ((spec_l6Rd_pick.f k bt344.1 bt356.2 20).bind fun bt358 => (some (bt347.2.1, bt347.2.2.1, wrap64 (bt356.1 - (wrap64 ((wrap64 (Int.tdiv bt358.1 19)) * 30))))))))
theorem spec_DrawStreamFor.mono : ∀ a0 k, LeO (spec_DrawStreamFor.f k a0) (spec_DrawStreamFor.f (k + 1) a0) := by
 intro a0 k
 unfold spec_DrawStreamFor.f
 exact leo2 spec_l6Rd_pick.mono spec_l71Stream.mono
def spec_DrawStreamFor.T3 : Bool × List (List Nat × List Nat) := (true, [([], []), ([], []), ([], []), ([2], [2]), ([3], [3]), ([4], [4]), ([1, 5], [1, 5]), ([], []), ([7, 6], [7]), ([8], [8]), ([9], [9]), ([6, 10], [6, 10]), ([0, 8, 0], [0]), ([11, 12, 0, 1, 2, 3, 4, 5, 6, 7, 8, 9, 10, 11, 12], [11])])
def spec_DrawStreamFor.B3 : List Nat := [0, 0, 0, 4, 12, 28, 62, 0, 254, 510, 1022, 2046, 511, 8191]
theorem spec_DrawStreamFor.tab3 : rtab .any (opsOf Tryz.f8 3) = spec_DrawStreamFor.T3 := by kernel_rfl
theorem spec_DrawStreamFor.bits3 : waitsOk spec_DrawStreamFor.T3.2 spec_DrawStreamFor.B3 = true := by kernel_rfl
theorem spec_DrawStreamFor.calls (k : Nat) (A0 : Option Addr) (c0 : Nat) (l0 : List Int) (r1 : ByteArray) (r2 : List (S31)) (r3 : Int) (w : World) (hr0 : Kd.C (Kd.int .u8) w A0 l0.length l0) (hc0 : l0.length ≤ c0) (h : spec_DrawStreamFor.f k l0 = some (r1, r2, r3)) :
  Calls Tryz.prog 8 #[.slice A0 l0.length c0] w fun e w'=>∃ v1_ : Value,e = .returned (.tuple #[.agg #[.string r1,v1_],.int .i64 r3]) ∧ Kd.R k31 31 w' w.heap.size (fun _=>True) v1_ r2 ∧ Below w.heap.size w w':=by
 have hu25:=Tryz.underlying25
 have HR0:=m_ hr0
 have HC0:=m_ hc0
 clear hr0 hc0
 have HB:=m_ (Below.refl w.heap.size w)
 have H : ((spec_l6Open.f l0).bind fun bt344=>((spec_l71Stream.f k bt344.1 bt344.2).bind fun bt347=>((spec_l6Rd_pick.f k bt344.1 bt347.2.2.2 (wrap64 ((bt347.2.1.size : Int) + 1))).bind fun bt356=>((spec_l6Rd_pick.f k bt344.1 bt356.2 20).bind fun bt358=>(some (bt347.2.1,bt347.2.2.1,wrap64 (bt356.1 - (wrap64 ((wrap64 (Int.tdiv bt358.1 19)) * 30))))))))) = some (r1,r2,r3):=h
 clear h
 replace H:=Option.bind_eq_some_iff.mp H
 obtain ⟨⟨t344,t345⟩,A20,H⟩:=H
 replace H : ((spec_l71Stream.f k t344 t345).bind fun bt347=>((spec_l6Rd_pick.f k t344 bt347.2.2.2 (wrap64 ((bt347.2.1.size : Int) + 1))).bind fun bt356=>((spec_l6Rd_pick.f k t344 bt356.2 20).bind fun bt358=>(some (bt347.2.1,bt347.2.2.1,wrap64 (bt356.1 - (wrap64 ((wrap64 (Int.tdiv bt358.1 19)) * 30)))))))) = some (r1,r2,r3):=H
 have A2:=m_ A20
 clear A20
 replace H:=Option.bind_eq_some_iff.mp H
 obtain ⟨⟨t347,t350,t351,t354⟩,A30,H⟩:=H
 replace H : ((spec_l6Rd_pick.f k t344 t354 (wrap64 ((t350.size : Int) + 1))).bind fun bt356=>((spec_l6Rd_pick.f k t344 bt356.2 20).bind fun bt358=>(some (t350,t351,wrap64 (bt356.1 - (wrap64 ((wrap64 (Int.tdiv bt358.1 19)) * 30))))))) = some (r1,r2,r3):=H
 have A3:=m_ A30
 clear A30
 replace H:=Option.bind_eq_some_iff.mp H
 obtain ⟨⟨t356,t357⟩,A40,H⟩:=H
 replace H : ((spec_l6Rd_pick.f k t344 t357 20).bind fun bt358=>(some (t350,t351,wrap64 (t356 - (wrap64 ((wrap64 (Int.tdiv bt358.1 19)) * 30)))))) = some (r1,r2,r3):=H
 have A4:=m_ A40
 clear A40
 replace H:=Option.bind_eq_some_iff.mp H
 obtain ⟨⟨t358,t359⟩,A50,H⟩:=H
 replace H : (some (t350,t351,wrap64 (t356 - (wrap64 ((wrap64 (Int.tdiv t358 19)) * 30))))) = some (r1,r2,r3):=H
 have A5:=m_ A50
 clear A50
 simp only [Option.some.injEq,Prod.mk.injEq] at H
 obtain ⟨rfl,rfl,rfl⟩:=H
 go_enter Tryz.func8,Tryz.ntmps8
 try go_wp2_with (first|((with_reducible refine gate_dst (N:=2) rfl ?_);refine box_event ?hg (N:=2) ?hd (cs:=#[.string (⟨#[]⟩ : ByteArray),.slice none 0 0]) (t:=25) ?hr ?_;(case hd=>rfl);(case hg=>rfl);(case hr=>first|(go_simp;done)|(go_simp;rfl));intro gb343 hg w6 hbox hb;have n0_:=m_ (l5_ (puL HB.out) hb);have n1_:=m_ (hbox);have n2_:=m_ ((by rw [hg];exact (l6_ (puL HB.out)) : w.heap.size ≤ gb343));have n3_:=m_ ((by rw [hg];exact (l6_ (puL HB.out)) : w.heap.size ≤ gb343));revert n0_ n1_ n2_ n3_;clear HB;intro HB BK343 GW343 GE343;clear hb hbox hg)|((with_reducible refine gate_callee (f:=22) rfl ?_);refine goesL_ (some 8) rfl rfl Tryz.func22 (by kernel_rfl) rfl #[.slice A0 l0.length c0] rfl lens ?_;(with_reducible refine (spec_l6Open.calls _ _ l0 t344 t345 w _ ?side1 ?side2 ?side3 A2.out).mono ?_);(case side1=>exact puM HB.out GE343.out);(case side2=>exact HR0.out);(case side3=>exact HC0.out);rintro e w7 ⟨g346,rfl,hi,hb,hb2⟩;refine ⟨_,rfl,?_⟩;have n0_:=m_ (blk_below (g:=gb343) (o:=.cells #[.string (⟨#[]⟩ : ByteArray),.slice none 0 0] 25 (0,0)) (puB BK343.out) hb2);have n1_:=m_ (hb);have n2_:=m_ (hi);have n3_:=m_ (IsS56.ne_blk hi (blk_below (g:=gb343) (o:=.cells #[.string (⟨#[]⟩ : ByteArray),.slice none 0 0] 25 (0,0)) (puB BK343.out) hb2) (by decide));have n4_:=m_ (Ne.symm (IsS56.ne_blk hi (blk_below (g:=gb343) (o:=.cells #[.string (⟨#[]⟩ : ByteArray),.slice none 0 0] 25 (0,0)) (puB BK343.out) hb2) (by decide)));revert n0_ n1_ n2_ n3_ n4_;clear BK343 HB;intro BK343 HB HI346 NB346_343 NB343_346;(try clear hb);(try clear hb2);(try clear hk);(try clear hi))|((with_reducible refine gate_callee (f:=23) rfl ?_);refine goesL_ (some 11) rfl rfl Tryz.func23 (by kernel_rfl) rfl #[.pointer (some ⟨g346,0,none⟩)] rfl lens ?_;(with_reducible refine (spec_l71Stream.calls k g346 t344 t345 t347 t350 t351 t354 w _ ?side1 ?side2 A3.out).mono ?_);(case side1=>repeat (first|(with_reducible first|exact HI346.out|apply IsS56.alloc|apply IsS56.drewN|apply IsS56.drew|apply IsS56.set_1|refine IsS56.far ?_ NB346_343.out _)|exact HI346.out));(case side2=>exact puN HB.out (IsS56.ge HI346.out) GE343.out);rintro e w8 ⟨v348,v352,rfl,ho0,ho1,hi,hb,hk⟩;refine ⟨_,rfl,?_⟩;have n0_:=m_ (KeepBut.blk hk (g':=gb343) (o:=.cells #[.string (⟨#[]⟩ : ByteArray),.slice none 0 0] 25 (0,0)) (puB BK343.out) NB343_346.out (by simp));have n1_:=m_ (Kd.Q_lower ho0 (l6_ (puN HB.out (IsS56.ge HI346.out) GE343.out)));have n2_:=m_ (Kd.R_lower ho1 (l6_ (puN HB.out (IsS56.ge HI346.out) GE343.out)));have n3_:=m_ (hb);have n4_:=m_ (hi);revert n0_ n1_ n2_ n3_ n4_;clear BK343 HB HI346;intro BK343 HO349 HO353 HB HI346;(try clear hb);(try clear hb2);(try clear hk);(try clear hi);(try clear ho0);(try clear ho1))|((with_reducible refine gate_dst (N:=6) rfl ?_);refine box_event ?hg (N:=6) ?hd (cs:=#[.string (⟨#[]⟩ : ByteArray),.slice none 0 0]) (t:=25) ?hr ?_;(case hd=>rfl);(case hg=>rfl);(case hr=>first|(go_simp;done)|(go_simp;rfl));intro gb355 hg w9 hbox hb;have n0_:=m_ (Kd.Q_below (puQ HO349.out) hb);have n1_:=m_ (Kd.R_below (puR HO353.out) hb);have n2_:=m_ (blk_below (g:=gb343) (o:=.cells #[.string (⟨#[]⟩ : ByteArray),.slice none 0 0] 25 (0,0)) (puB BK343.out) hb);have n3_:=m_ (IsS56.below (by repeat (first|(with_reducible first|exact HI346.out|apply IsS56.alloc|apply IsS56.drewN|apply IsS56.drew|apply IsS56.set_1|refine IsS56.far ?_ NB346_343.out _)|exact HI346.out)) hb);have n4_:=m_ (l5_ (puN HB.out (IsS56.ge HI346.out) GE343.out) hb);have n5_:=m_ (hbox);have n6_:=m_ ((by rw [hg];exact (l6_ (puN HB.out (IsS56.ge HI346.out) GE343.out)) : w.heap.size ≤ gb355));have n7_:=n6_;have n8_:=m_ ((by rw [hg];exact Nat.ne_of_lt (blk_lt (g:=gb343) (o:=.cells #[.string (⟨#[]⟩ : ByteArray),.slice none 0 0] 25 (0,0)) (puB BK343.out)) : gb343 ≠ gb355));have n9_:=m_ n8_.out.symm;have n10_:=m_ ((by rw [hg];exact Nat.ne_of_lt (IsS56.lt (show IsS56 w _ g346 t344 t354 from by repeat (first|(with_reducible first|exact HI346.out|apply IsS56.alloc|apply IsS56.drewN|apply IsS56.drew|apply IsS56.set_1|refine IsS56.far ?_ NB346_343.out _)|exact HI346.out))) : g346 ≠ gb355));have n11_:=m_ n10_.out.symm;revert n0_ n1_ n2_ n3_ n4_ n5_ n6_ n7_ n8_ n9_ n10_ n11_;clear HO349 HO353 BK343 HI346 HB;intro HO349 HO353 BK343 HI346 HB BK355 GW355 GE355 NB343_355 NB355_343 NB346_355 NB355_346;clear hb hbox hg;have hnb10:=NB355_343.out;have hnc10:=NB343_355.out;have hnb11:=NB355_346.out;have hnc11:=NB346_355.out;have hcz12_0 : w9.cell? ⟨gb355,0,none⟩ = some (.string (⟨#[]⟩ : ByteArray)):=(c_ BK355.out 0).trans rfl;have hcz12_1 : w9.cell? ⟨gb355,1,none⟩ = some (.slice none 0 0):=(c_ BK355.out 1).trans rfl;have hfz12_0:=f_ BK355.out 0;have hfz12_1:=f_ BK355.out 1;obtain ⟨Ao13,co13,eo13⟩:=Kd.R_slice HO353.out;subst eo13))
 have n0_ : Aside0 (Kd.Q k79 79 ((w9.setCell ⟨gb355,0,none⟩ (.string t350)).setCell ⟨gb355,1,none⟩ (.slice Ao13 t351.length co13)) w.heap.size (fun _=>True) v348 t347):=⟨by (with_reducible repeat (first|apply Kd.Q_alloc|apply Kd.Q_drewN|apply Kd.Q_drew));exact Kd.Q_mono (Kd.Q_far (p:=⟨gb355,1,none⟩) (Kd.Q_far (p:=⟨gb355,0,none⟩) (Kd.Q_types HO349.out BK355.out (by decide)) (fun _ hk=>hk.2) (.string t350)) (fun _ hk=>hk.2) (.slice Ao13 t351.length co13)) (fun _ hk=>trivial)⟩
 have n1_ : Aside0 (Kd.R k31 31 ((w9.setCell ⟨gb355,0,none⟩ (.string t350)).setCell ⟨gb355,1,none⟩ (.slice Ao13 t351.length co13)) w.heap.size (fun _=>True) (.slice Ao13 t351.length co13) t351):=⟨by (with_reducible repeat (first|apply Kd.R_alloc|apply Kd.R_drewN|apply Kd.R_drew));exact Kd.R_mono (Kd.R_far (p:=⟨gb355,1,none⟩) (Kd.R_far (p:=⟨gb355,0,none⟩) (Kd.R_types HO353.out BK355.out (by decide)) (fun _ hk=>hk.2) (.string t350)) (fun _ hk=>hk.2) (.slice Ao13 t351.length co13)) (fun _ hk=>trivial)⟩
 have n2_ : Aside0 (((w9.setCell ⟨gb355,0,none⟩ (.string t350)).setCell ⟨gb355,1,none⟩ (.slice Ao13 t351.length co13)).heap[gb343]? = some (.cells #[.string (⟨#[]⟩ : ByteArray),.slice none 0 0] 25 (0,0))):=⟨by (with_reducible repeat first|apply b1_|apply b2_|apply b3_);refine b4_ ?_ NB343_355.out _;(with_reducible repeat first|apply b1_|apply b2_|apply b3_);refine b4_ ?_ NB343_355.out _;(with_reducible repeat first|apply b1_|apply b2_|apply b3_);exact BK343.out⟩
 have n3_ : Aside0 (((w9.setCell ⟨gb355,0,none⟩ (.string t350)).setCell ⟨gb355,1,none⟩ (.slice Ao13 t351.length co13)).heap[gb355]? = some (.cells #[.string t350,.slice Ao13 t351.length co13] 25 (0,0))):=⟨by (with_reducible repeat first|apply b1_|apply b2_|apply b3_);refine blk_put (cs:=#[.string t350,.slice none 0 0]) ?_ 1 _ rfl;(with_reducible repeat first|apply b1_|apply b2_|apply b3_);refine blk_put (cs:=#[.string (⟨#[]⟩ : ByteArray),.slice none 0 0]) ?_ 0 _ rfl;(with_reducible repeat first|apply b1_|apply b2_|apply b3_);exact BK355.out⟩
 have n4_ : Aside0 (IsS56 w ((w9.setCell ⟨gb355,0,none⟩ (.string t350)).setCell ⟨gb355,1,none⟩ (.slice Ao13 t351.length co13)) g346 t344 t354):=⟨by repeat (first|(with_reducible first|exact HI346.out|apply IsS56.alloc|apply IsS56.drewN|apply IsS56.drew|apply IsS56.set_1|refine IsS56.far ?_ NB346_343.out _|refine IsS56.far ?_ NB346_355.out _)|exact HI346.out)⟩
 have n5_ : Aside0 (Below w.heap.size w ((w9.setCell ⟨gb355,0,none⟩ (.string t350)).setCell ⟨gb355,1,none⟩ (.slice Ao13 t351.length co13))):=⟨puO HB.out (IsS56.ge HI346.out) GE343.out GE355.out⟩
 (try clear HO349)
 (try clear HO353)
 (try clear BK343)
 (try clear BK355)
 (try clear HI346)
 (try clear HB)
 generalize ((w9.setCell ⟨gb355,0,none⟩ (.string t350)).setCell ⟨gb355,1,none⟩ (.slice Ao13 t351.length co13)) = w14 at n0_ n1_ n2_ n3_ n4_ n5_ ⊢
 have HO349:=n0_
 have HO353:=n1_
 have BK343:=n2_
 have BK355:=n3_
 have HI346:=n4_
 have HB:=n5_
 clear n0_ n1_ n2_ n3_ n4_ n5_
 have n0_:=m_ (Kd.Q_drew HO349.out)
 have n1_:=m_ (Kd.R_drew HO353.out)
 have n2_:=m_ (b2_ BK343.out)
 have n3_:=m_ (b2_ BK355.out)
 have n4_:=m_ (IsS56.drew HI346.out)
 have n5_:=m_ (l3_ HB.out)
 clear HO349
 clear HO353
 clear BK343
 clear BK355
 clear HI346
 clear HB
 have HO349:=n0_
 have HO353:=n1_
 have BK343:=n2_
 have BK355:=n3_
 have HI346:=n4_
 have HB:=n5_
 clear n0_ n1_ n2_ n3_ n4_ n5_
 refine start_ (n:=14) (S:=fun w'=>w'.cell? ⟨gb355,0,none⟩ = some (.string t350) ∧ w'.cell? ⟨gb355,1,none⟩ = some (.slice Ao13 t351.length co13)) (ds:=[]) #[false,false,false,false,false,false,false,false,false,false,false,false,false,false] (by kernel_rfl) rfl rfl ⟨(c_ BK355.out 0).trans rfl,(c_ BK355.out 1).trans rfl⟩ (fun hHeld=>?_);refine with_tabW spec_DrawStreamFor.tab3 spec_DrawStreamFor.bits3 (fun HT_ HW_=>?_)
 generalize w14.drew = w15 at HO349 HO353 BK343 BK355 HI346 HB hHeld ⊢
 refine pureA 1 (some 15) HT_.out ?_
 refine pureA 2 (some 16) HT_.out ?_
 refine pureA 7 (some 21) HT_.out ?_
 refine takeA 0 (some 14) rfl rfl HT_.out HW_.out hHeld ?_ (by rintro w' ⟨s0,s1⟩;go_simp;with_reducible rfl)
 refine takeA 3 (some 17) rfl rfl HT_.out HW_.out hHeld ?_ (by rintro w' ⟨s0,s1⟩;go_simp;with_reducible rfl)
 refine pureA 4 (some 18) HT_.out ?_
 refine pureA 5 (some 19) HT_.out ?_
 refine one_ (i:=6) (N:=some 20) #[true,true,true,true,true,true,true,true,false,false,false,false,false,false] rfl rfl (one_of HT_.out (by kernel_rfl)) (by decide) (fun K hK=>?_)
 refine goes_ Tryz.func24 (by kernel_rfl) rfl #[.pointer (some ⟨g346,0,none⟩),.int .i64 (wrap64 ((t350.size : Int) + 1))] (by rfl) rfl rfl lens ?_
 with_reducible refine (spec_l6Rd_pick.calls k g346 t344 t354 (wrap64 ((t350.size : Int) + 1)) t356 t357 w _ ?side1 ?side2 A4.out).mono ?_
 (case side1=>repeat (first|(with_reducible first|exact HI346.out|apply IsS56.alloc|apply IsS56.drewN|apply IsS56.drew|apply IsS56.set_1|refine IsS56.far ?_ NB346_343.out _|refine IsS56.far ?_ NB346_355.out _)|exact HI346.out))
 (case side2=>exact puO HB.out (IsS56.ge HI346.out) GE343.out GE355.out)
 rintro e w16 ⟨rfl,hi,hb,hk⟩
 refine ⟨_,rfl,?_⟩
 have n0_:=m_ (KeepBut.blk hk (g':=gb343) (o:=.cells #[.string (⟨#[]⟩ : ByteArray),.slice none 0 0] 25 (0,0)) (puB BK343.out) NB343_346.out (by simp))
 have n1_:=m_ (Kd.Q_mono (Kd.Q_keep (IsS56.apartQ (show IsS56 w _ g346 t344 t354 from by repeat (first|(with_reducible first|exact HI346.out|apply IsS56.alloc|apply IsS56.drewN|apply IsS56.drew|apply IsS56.set_1|refine IsS56.far ?_ NB346_343.out _|refine IsS56.far ?_ NB346_355.out _)|exact HI346.out)) (puQ HO349.out) (by decide)) hk (fun _ h=>h.2)) (fun _ h=>h.1))
 have n2_:=m_ (Kd.R_mono (Kd.R_keep (IsS56.apart (show IsS56 w _ g346 t344 t354 from by repeat (first|(with_reducible first|exact HI346.out|apply IsS56.alloc|apply IsS56.drewN|apply IsS56.drew|apply IsS56.set_1|refine IsS56.far ?_ NB346_343.out _|refine IsS56.far ?_ NB346_355.out _)|exact HI346.out)) (puR HO353.out) (by decide)) hk (fun _ h=>h.2)) (fun _ h=>h.1))
 have n3_:=m_ (KeepBut.blk hk (g':=gb355) (o:=.cells #[.string t350,.slice Ao13 t351.length co13] 25 (0,0)) (puB BK355.out) NB355_346.out (by simp))
 have n4_:=m_ (hb)
 have n5_:=m_ (hi)
 clear BK343
 clear HO349
 clear HO353
 clear BK355
 clear HB
 clear HI346
 have BK343:=n0_
 have HO349:=n1_
 have HO353:=n2_
 have BK355:=n3_
 have HB:=n4_
 have HI346:=n5_
 clear n0_ n1_ n2_ n3_ n4_ n5_
 (try clear hb)
 (try clear hb2)
 (try clear hk)
 (try clear hi)
 refine hK.out _ _ ⟨(c_ BK355.out 0).trans rfl,(c_ BK355.out 1).trans rfl⟩ (fun hHeld=>?_)
 clear hK K
 refine norm_ (a':=?_) ?_ ?_
 rotate_left
 ·show Act.put _ (some 20) _ = _
  simp only [Act.put,s1_,s2_,s3_,i64_w,i32_w]
  rfl
 refine one_ (i:=8) (N:=some 22) #[true,true,true,true,true,true,true,true,true,false,false,false,false,false] rfl rfl (one_of HT_.out (by kernel_rfl)) (by decide) (fun K hK=>?_)
 refine goes_ Tryz.func24 (by kernel_rfl) rfl #[.pointer (some ⟨g346,0,none⟩),.int .i64 20] (by rfl) rfl rfl lens ?_
 with_reducible refine (spec_l6Rd_pick.calls k g346 t344 t357 20 t358 t359 w _ ?side1 ?side2 A5.out).mono ?_
 (case side1=>repeat (first|(with_reducible first|exact HI346.out|apply IsS56.alloc|apply IsS56.drewN|apply IsS56.drew|apply IsS56.set_1|refine IsS56.far ?_ NB346_343.out _|refine IsS56.far ?_ NB346_355.out _)|exact HI346.out))
 (case side2=>exact puO HB.out (IsS56.ge HI346.out) GE343.out GE355.out)
 rintro e w17 ⟨rfl,hi,hb,hk⟩
 refine ⟨_,rfl,?_⟩
 have n0_:=m_ (KeepBut.blk hk (g':=gb343) (o:=.cells #[.string (⟨#[]⟩ : ByteArray),.slice none 0 0] 25 (0,0)) (puB BK343.out) NB343_346.out (by simp))
 have n1_:=m_ (Kd.Q_mono (Kd.Q_keep (IsS56.apartQ (show IsS56 w _ g346 t344 t357 from by repeat (first|(with_reducible first|exact HI346.out|apply IsS56.alloc|apply IsS56.drewN|apply IsS56.drew|apply IsS56.set_1|refine IsS56.far ?_ NB346_343.out _|refine IsS56.far ?_ NB346_355.out _)|exact HI346.out)) (puQ HO349.out) (by decide)) hk (fun _ h=>h.2)) (fun _ h=>h.1))
 have n2_:=m_ (Kd.R_mono (Kd.R_keep (IsS56.apart (show IsS56 w _ g346 t344 t357 from by repeat (first|(with_reducible first|exact HI346.out|apply IsS56.alloc|apply IsS56.drewN|apply IsS56.drew|apply IsS56.set_1|refine IsS56.far ?_ NB346_343.out _|refine IsS56.far ?_ NB346_355.out _)|exact HI346.out)) (puR HO353.out) (by decide)) hk (fun _ h=>h.2)) (fun _ h=>h.1))
 have n3_:=m_ (KeepBut.blk hk (g':=gb355) (o:=.cells #[.string t350,.slice Ao13 t351.length co13] 25 (0,0)) (puB BK355.out) NB355_346.out (by simp))
 have n4_:=m_ (hb)
 have n5_:=m_ (hi)
 clear BK343
 clear HO349
 clear HO353
 clear BK355
 clear HB
 clear HI346
 have BK343:=n0_
 have HO349:=n1_
 have HO353:=n2_
 have BK355:=n3_
 have HB:=n4_
 have HI346:=n5_
 clear n0_ n1_ n2_ n3_ n4_ n5_
 (try clear hb)
 (try clear hb2)
 (try clear hk)
 (try clear hi)
 refine hK.out _ _ ⟨(c_ BK355.out 0).trans rfl,(c_ BK355.out 1).trans rfl⟩ (fun hHeld=>?_)
 clear hK K
 refine norm_ (a':=?_) ?_ ?_
 rotate_left
 ·show Act.put _ (some 22) _ = _
  simp only [Act.put,s1_,s2_,s3_,i64_w,i32_w]
  rfl
 refine pureA 9 (some 23) HT_.out ?_
 refine pureA 10 (some 24) HT_.out ?_
 refine pureA 11 (some 25) HT_.out ?_
 refine one_ (i:=12) (N:=none) #[true,true,true,true,true,true,true,true,true,true,true,true,true,false] rfl rfl (one_of HT_.out (by kernel_rfl)) (by decide) (fun K hK=>?_)
 have hs18 : w17.cell? ⟨gb343,0,none⟩ = some (.string (⟨#[]⟩ : ByteArray)):=(c_ BK343.out 0).trans rfl
 have hfs18:=f_ BK343.out 0
 have hns18_1:=NB355_343.out
 have hms18_1:=NB343_355.out
 have hs19 : w17.cell? ⟨gb343,1,none⟩ = some (.slice none 0 0):=(c_ BK343.out 1).trans rfl
 have hfs19:=f_ BK343.out 1
 have hns19_1:=NB355_343.out
 have hms19_1:=NB343_355.out
 refine skip_ (w1:=?_) (by rfl) rfl ?_ ?_
 rotate_left
 ·go_simp
  rfl
 refine hK.out _ _ ⟨((cell_far (p:=⟨gb343,_,none⟩) NB355_343.out _).trans (((cell_far (p:=⟨gb343,_,none⟩) NB355_343.out _).trans (hHeld.1)))),((cell_far (p:=⟨gb343,_,none⟩) NB355_343.out _).trans (((cell_far (p:=⟨gb343,_,none⟩) NB355_343.out _).trans (hHeld.2))))⟩ (fun hHeld=>?_)
 clear hK K
 refine pureA 13 (some 3) HT_.out ?_
 refine done_ (done_of HT_.out (by kernel_rfl)) ?_
 try go_wp2
 refine bodyPost_ret (results_ct rfl _ _ gb343 25 #[.string t350,.slice Ao13 t351.length co13] (0,0) _ rfl (by (with_reducible repeat first|apply b1_|apply b2_|apply b3_);refine blk_put (cs:=#[.string t350,.slice none 0 0]) ?_ 1 _ rfl;(with_reducible repeat first|apply b1_|apply b2_|apply b3_);refine blk_put (cs:=#[.string (⟨#[]⟩ : ByteArray),.slice none 0 0]) ?_ 0 _ rfl;(with_reducible repeat first|apply b1_|apply b2_|apply b3_);exact BK343.out) Tryz.underlying25 rfl (by kernel_rfl)) rfl ?_
 exact ⟨_,eqs,by (with_reducible repeat (first|apply Kd.R_alloc|apply Kd.R_drewN|apply Kd.R_drew));exact Kd.R_mono (Kd.R_far (p:=⟨gb343,1,none⟩) (Kd.R_far (p:=⟨gb343,0,none⟩) (Kd.R_types HO353.out BK343.out (by decide)) (fun _ hk=>hk.2) (.string t350)) (fun _ hk=>hk.2) (.slice Ao13 t351.length co13)) (fun _ hk=>trivial),puO HB.out (IsS56.ge HI346.out) GE343.out GE355.out⟩

/-! ### spec_l11For: function 28 -/
def spec_l11For.l0 : Nat → Int → Int → Int → ByteArray → List (S31) → Option (Int)
 | 0, _, _, _, _, _ => none
 | k + 1, x1, x5, x6, x472000, x472001 => if x6 < (x472001.length : Int) then (if 0 ≤ x6 then (if ((rd_T31 x472001 x6).f0) ≤ x1 then (spec_l11For.l0 k (wrap64 (x1 - ((rd_T31 x472001 x6).f0))) (wrap64 (x5 + (((rd_T31 x472001 x6).f1).size : Int))) (wrap64 (x6 + 1)) x472000 x472001) else (some x5)) else (none)) else (some x5)
def spec_l11For.f (k : Nat) (a0_0 : ByteArray) (l0_1 : List (S31)) (a1 : Int) : Option (Int) := spec_l11For.l0 k a1 0 0 a0_0 l0_1
theorem spec_l11For.mono_l : ∀ k, (∀ y0 y1 y2 y3 y4, LeO (spec_l11For.l0 k y0 y1 y2 y3 y4) (spec_l11For.l0 (k + 1) y0 y1 y2 y3 y4))
 | 0 => fun _ _ _ _ _ r h => by simp [spec_l11For.l0] at h
 | k + 1 => by
  have ih0:=spec_l11For.mono_l k
  ·intro y0 y1 y2 y3 y4
   unfold spec_l11For.l0
   exact leo1 ih0
theorem spec_l11For.mono : ∀ a0 a1 a2 k, LeO (spec_l11For.f k a0 a1 a2) (spec_l11For.f (k + 1) a0 a1 a2) := by
 intro a0 a1 a2 k
 have ih0:=spec_l11For.mono_l k
 unfold spec_l11For.f
 exact leo1 ih0
theorem spec_l11For.calls (k : Nat) (a0_0 : ByteArray) (A0_1 : Option Addr) (c0_1 : Nat) (l0_1 : List (S31)) (a1 : Int) (r : Int) (w : World) (hr0_1 : Kd.C k31 w A0_1 l0_1.length l0_1) (hc0_1 : l0_1.length ≤ c0_1) (h : spec_l11For.f k a0_0 l0_1 a1 = some r) :
  Calls Tryz.prog 28 #[.agg #[.string a0_0,.slice A0_1 l0_1.length c0_1],.int .i64 a1] w fun e w'=>e = .returned (.int .i64 r) ∧ Below w.heap.size w w':=by
 have hu25:=Tryz.underlying25
 have HR0_1:=m_ hr0_1
 have HC0_1:=m_ hc0_1
 clear hr0_1 hc0_1
 have HB:=m_ (Below.refl w.heap.size w)
 have H : (spec_l11For.l0 k a1 0 0 a0_0 l0_1) = some r:=h
 clear h
 have H':=m_ H
 clear H
 go_enter Tryz.func28,Tryz.ntmps28
 go_wp2_with (first|((with_reducible refine gate_dst (N:=2) rfl ?_);refine box_event ?hg (N:=2) ?hd (cs:=#[.string a0_0,.slice A0_1 l0_1.length c0_1]) (t:=25) ?hr ?_;(case hd=>rfl);(case hg=>rfl);(case hr=>first|(go_simp;done)|(go_simp;rfl));intro gb471 hg w3 hbox hb;have n0_:=m_ (l5_ (puL HB.out) hb);have n1_:=m_ (hbox);have n2_:=m_ ((by rw [hg];exact (l6_ (puL HB.out)) : w.heap.size ≤ gb471));have n3_:=n2_;revert n0_ n1_ n2_ n3_;clear HB;intro HB BK471 GW471 GE471;clear hb hbox hg))
 go_loopg [1,5,6] k (fun kq v1 v5 v6 w'=>∃ (x1_1 : Int) (x5_1 : Int) (x6_1 : Int),v1 = .int .i64 x1_1 ∧ v5 = .int .i64 x5_1 ∧ v6 = .int .i64 x6_1 ∧ Aside0 (spec_l11For.l0 kq x1_1 x5_1 x6_1 a0_0 l0_1 = some r) ∧ Aside0 (kq ≤ k) ∧ Aside0 (w'.heap[gb471]? = some (.cells #[.string a0_0,(.slice A0_1 l0_1.length c0_1)] 25 (0,0))) ∧ Aside0 (Below w.heap.size w w'))
 case atStart=>exact ⟨(a1),(0),(0),(by first|rfl|(simp;done)|(simp [*];done)),(by first|rfl|(simp;done)|(simp [*];done)),(by first|rfl|(simp;done)|(simp [*];done)),H',⟨Nat.le_refl _⟩,⟨by (with_reducible repeat first|apply b1_|apply b2_|apply b3_);exact BK471.out⟩,⟨puM HB.out GE471.out⟩⟩
 case round =>
  clear H'
  try clear c2
  try clear p2
  obtain ⟨x1_1,x5_1,x6_1,rfl,rfl,rfl,HA,HK1,BK471,HB⟩:=hrel
  cases gk with
  | zero => exact absurd HA.out (by simp [spec_l11For.l0])
  | succ k1 =>
   have H:=HA.out
   clear HA
   simp only [spec_l11For.l0] at H
   by_cases c4 : x6_1 < (l0_1.length : Int)
   ·rw [if_pos c4] at H
    have c4b0 : decide (x6_1 < (l0_1.length : Int)) = true:=decide_eq_true c4
    clear c4
    by_cases c5 : 0 ≤ x6_1
    rotate_left
    ·rw [if_neg c5] at H
     exact absurd H (by simp)
    rw [if_pos c5] at H
    have c5b0 : decide (0 ≤ x6_1) = true:=decide_eq_true c5
    clear c5
    by_cases c6 : ((rd_T31 l0_1 x6_1).f0) ≤ x1_1
    ·rw [if_pos c6] at H
     have c6b0 : decide (((rd_T31 l0_1 x6_1).f0) ≤ x1_1) = true:=decide_eq_true c6
     clear c6
     have H':=m_ H
     clear H
     have hcz7_0 : wr.cell? ⟨gb471,0,none⟩ = some (.string a0_0):=(c_ BK471.out 0).trans rfl
     have hcz7_1 : wr.cell? ⟨gb471,1,none⟩ = some (.slice A0_1 l0_1.length c0_1):=(c_ BK471.out 1).trans rfl
     have p472 : 0 ≤ (x6_1 : Int):=of_decide_eq_true asm
     have q472 : x6_1 < (l0_1.length : Int):=of_decide_eq_true asm
     obtain ⟨ad472,e472,hx472_0,hx472_1⟩:=at_T31 HR0_1.out x6_1 p472 q472
     cases e472
     replace hx472_0:=(HB.out.cell (World.block_lt_of_cell? w _ hx472_0)).trans hx472_0
     replace hx472_1:=(HB.out.cell (World.block_lt_of_cell? w _ hx472_1)).trans hx472_1
     replace p472:=eq_true p472
     replace q472:=eq_true q472
     have p473 : 0 ≤ (x6_1 : Int):=of_decide_eq_true asm
     have q473 : x6_1 < (l0_1.length : Int):=of_decide_eq_true asm
     obtain ⟨ad473,e473,hx473_0,hx473_1⟩:=at_T31 HR0_1.out x6_1 p473 q473
     obtain rfl : ad472 = ad473:=(by injection e473)
     replace hx473_0:=(HB.out.cell (World.block_lt_of_cell? w _ hx473_0)).trans hx473_0
     replace hx473_1:=(HB.out.cell (World.block_lt_of_cell? w _ hx473_1)).trans hx473_1
     replace p473:=eq_true p473
     replace q473:=eq_true q473
     have p474 : 0 ≤ (x6_1 : Int):=of_decide_eq_true asm
     have q474 : x6_1 < (l0_1.length : Int):=of_decide_eq_true asm
     obtain ⟨ad474,e474,hx474_0,hx474_1⟩:=at_T31 HR0_1.out x6_1 p474 q474
     obtain rfl : ad472 = ad474:=(by injection e474)
     replace hx474_0:=(HB.out.cell (World.block_lt_of_cell? w _ hx474_0)).trans hx474_0
     replace hx474_1:=(HB.out.cell (World.block_lt_of_cell? w _ hx474_1)).trans hx474_1
     replace p474:=eq_true p474
     replace q474:=eq_true q474
     go_wp2
     go_roundg k1
     case measure=>have:=HK1.out;omega
     case rel=>exact ⟨(wrap64 (x1_1 - ((rd_T31 l0_1 x6_1).f0))),(wrap64 (x5_1 + (((rd_T31 l0_1 x6_1).f1).size : Int))),(wrap64 (x6_1 + 1)),(by first|rfl|(simp;done)|(simp [*];done)),(by first|rfl|(simp;done)|(simp [*];done)),(by first|rfl|(simp;done)|(simp [*];done)),H',⟨by have:=HK1.out;omega⟩,⟨by (with_reducible repeat first|apply b1_|apply b2_|apply b3_);exact BK471.out⟩,⟨puM HB.out GE471.out⟩⟩
    ·rw [if_neg c6] at H
     have c6b0 : decide (((rd_T31 l0_1 x6_1).f0) ≤ x1_1) = false:=decide_eq_false c6
     clear c6
     obtain rfl:=Option.some.inj H
     have hcz8_0 : wr.cell? ⟨gb471,0,none⟩ = some (.string a0_0):=(c_ BK471.out 0).trans rfl
     have hcz8_1 : wr.cell? ⟨gb471,1,none⟩ = some (.slice A0_1 l0_1.length c0_1):=(c_ BK471.out 1).trans rfl
     have p472 : 0 ≤ (x6_1 : Int):=of_decide_eq_true asm
     have q472 : x6_1 < (l0_1.length : Int):=of_decide_eq_true asm
     obtain ⟨ad472,e472,hx472_0,hx472_1⟩:=at_T31 HR0_1.out x6_1 p472 q472
     cases e472
     replace hx472_0:=(HB.out.cell (World.block_lt_of_cell? w _ hx472_0)).trans hx472_0
     replace hx472_1:=(HB.out.cell (World.block_lt_of_cell? w _ hx472_1)).trans hx472_1
     replace p472:=eq_true p472
     replace q472:=eq_true q472
     go_wp2
     go_ret
     exact ⟨eqs,puM HB.out GE471.out⟩
   ·rw [if_neg c4] at H
    have c4b0 : decide (x6_1 < (l0_1.length : Int)) = false:=decide_eq_false c4
    clear c4
    obtain rfl:=Option.some.inj H
    have hcz9_0 : wr.cell? ⟨gb471,0,none⟩ = some (.string a0_0):=(c_ BK471.out 0).trans rfl
    have hcz9_1 : wr.cell? ⟨gb471,1,none⟩ = some (.slice A0_1 l0_1.length c0_1):=(c_ BK471.out 1).trans rfl
    go_wp2
    go_ret
    exact ⟨eqs,puM HB.out GE471.out⟩

/-! ### spec_StreamFor: function 10 -/
def spec_StreamFor.f (k : Nat) (a0_0 : ByteArray) (l0_1 : List (S31)) (a1 : Int) : Option (Int) := (spec_StreamOk.f k a0_0 l0_1).bind fun t476 => (if t476 = true then ((spec_l6In.f a1 0 (a0_0.size : Int)).bind fun t477 => (if t477 = true then ((spec_l11For.f k a0_0 l0_1 a1).bind fun t478 => (some t478)) else (some (-1)))) else (some (-1)))
theorem spec_StreamFor.mono : ∀ a0 a1 a2 k, LeO (spec_StreamFor.f k a0 a1 a2) (spec_StreamFor.f (k + 1) a0 a1 a2) := by
 intro a0 a1 a2 k
 unfold spec_StreamFor.f
 exact leo2 spec_StreamOk.mono spec_l11For.mono
theorem spec_StreamFor.calls (k : Nat) (a0_0 : ByteArray) (A0_1 : Option Addr) (c0_1 : Nat) (l0_1 : List (S31)) (a1 : Int) (r : Int) (w : World) (hr0_1 : Kd.C k31 w A0_1 l0_1.length l0_1) (hc0_1 : l0_1.length ≤ c0_1) (h : spec_StreamFor.f k a0_0 l0_1 a1 = some r) :
  Calls Tryz.prog 10 #[.agg #[.string a0_0,.slice A0_1 l0_1.length c0_1],.int .i64 a1] w fun e w'=>e = .returned (.int .i64 r) ∧ Below w.heap.size w w':=by
 have hu25:=Tryz.underlying25
 have HR0_1:=m_ hr0_1
 have HC0_1:=m_ hc0_1
 clear hr0_1 hc0_1
 have HB:=m_ (Below.refl w.heap.size w)
 have H : ((spec_StreamOk.f k a0_0 l0_1).bind fun t476=>(if t476 = true then ((spec_l6In.f a1 0 (a0_0.size : Int)).bind fun t477=>(if t477 = true then ((spec_l11For.f k a0_0 l0_1 a1).bind fun t478=>(some t478)) else (some (-1)))) else (some (-1)))) = some r:=h
 clear h
 replace H:=Option.bind_eq_some_iff.mp H
 obtain ⟨t476,A30,H⟩:=H
 have A3:=m_ A30
 clear A30
 by_cases c4 : t476 = true
 ·subst c4
  replace H:=ifp H rfl
  replace H:=Option.bind_eq_some_iff.mp H
  obtain ⟨t477,A50,H⟩:=H
  have A5:=m_ A50
  clear A50
  by_cases c6 : t477 = true
  ·subst c6
   replace H:=ifp H rfl
   replace H:=Option.bind_eq_some_iff.mp H
   obtain ⟨t478,A70,H⟩:=H
   have A7:=m_ A70
   clear A70
   obtain rfl:=Option.some.inj H
   go_enter Tryz.func10,Tryz.ntmps10
   go_wp2_with (first|((with_reducible refine gate_dst (N:=2) rfl ?_);(try (refine gate_guard (by rfl) ?_;dsimp only));refine box_event ?hg (N:=2) ?hd (cs:=#[.string a0_0,.slice A0_1 l0_1.length c0_1]) (t:=25) ?hr ?_;(case hd=>rfl);(case hg=>rfl);(case hr=>first|(go_simp;done)|(go_simp;rfl));intro gb475 hg w8 hbox hb;have n0_:=m_ (l5_ (puL HB.out) hb);have n1_:=m_ (hbox);have n2_:=m_ ((by rw [hg];exact (l6_ (puL HB.out)) : w.heap.size ≤ gb475));have n3_:=m_ ((by rw [hg];exact (l6_ (puL HB.out)) : w.heap.size ≤ gb475));revert n0_ n1_ n2_ n3_;clear HB;intro HB BK475 GW475 GE475;clear hb hbox hg;have hcz9_0 : w8.cell? ⟨gb475,0,none⟩ = some (.string a0_0):=(c_ BK475.out 0).trans rfl;have hcz9_1 : w8.cell? ⟨gb475,1,none⟩ = some (.slice A0_1 l0_1.length c0_1):=(c_ BK475.out 1).trans rfl)|((with_reducible refine gate_callee (f:=11) rfl ?_);refine goesL_ (some 6) rfl rfl Tryz.func11 (by kernel_rfl) rfl #[.agg #[.string a0_0,.slice A0_1 l0_1.length c0_1]] rfl lens ?_;(with_reducible refine (spec_StreamOk.calls k a0_0 _ _ l0_1 true _ ?side1 ?side2 A3.out).mono ?_);(case side1=>exact puC (Kd.C_below HR0_1.out HB.out));(case side2=>exact HC0_1.out);rintro e w10 ⟨rfl,hb⟩;refine ⟨_,rfl,?_⟩;have n0_:=m_ (blk_below (g:=gb475) (o:=.cells #[.string a0_0,.slice A0_1 l0_1.length c0_1] 25 (0,0)) (puB BK475.out) hb);have n1_:=m_ (l5_ (puM HB.out GE475.out) hb);revert n0_ n1_;clear BK475 HB;intro BK475 HB;(try clear hb);(try clear hb2);(try clear hk);(try clear hi);have hcz11_0 : w10.cell? ⟨gb475,0,none⟩ = some (.string a0_0):=(c_ BK475.out 0).trans rfl;have hcz11_1 : w10.cell? ⟨gb475,1,none⟩ = some (.slice A0_1 l0_1.length c0_1):=(c_ BK475.out 1).trans rfl)|(go_at_call 27;(with_reducible refine (spec_l6In.calls a1 0 (a0_0.size : Int) true _ A5.out).mono ?_);rintro e w' ⟨rfl,⟨nd,rfl⟩⟩)|((with_reducible refine gate_callee (f:=28) rfl ?_);refine goesL_ (some 18) rfl rfl Tryz.func28 (by kernel_rfl) rfl #[.agg #[.string a0_0,.slice A0_1 l0_1.length c0_1],.int .i64 a1] rfl lens ?_;(with_reducible refine (spec_l11For.calls k a0_0 _ _ l0_1 a1 t478 _ ?side1 ?side2 A7.out).mono ?_);(case side1=>repeat (first|exact (Kd.C_below HR0_1.out (puM HB.out GE475.out))|(with_reducible refine Kd.C_alloc ?_ _)|(with_reducible refine Kd.C_drewN ?_ _)|(with_reducible refine Kd.C_drew ?_)));(case side2=>exact HC0_1.out);rintro e w12 ⟨rfl,hb⟩;refine ⟨_,rfl,?_⟩;have n0_:=m_ (blk_below (g:=gb475) (o:=.cells #[.string a0_0,.slice A0_1 l0_1.length c0_1] 25 (0,0)) (puB BK475.out) hb);have n1_:=m_ (l5_ (puM HB.out GE475.out) hb);revert n0_ n1_;clear BK475 HB;intro BK475 HB;(try clear hb);(try clear hb2);(try clear hk);(try clear hi)))
   go_ret
   exact ⟨eqs,puM HB.out GE475.out⟩
  ·replace c6:=Bool.eq_false_iff.mpr c6
   subst c6
   replace H:=ifn H
   obtain rfl:=Option.some.inj H
   go_enter Tryz.func10,Tryz.ntmps10
   go_wp2_with (first|((with_reducible refine gate_dst (N:=2) rfl ?_);(try (refine gate_guard (by rfl) ?_;dsimp only));refine box_event ?hg (N:=2) ?hd (cs:=#[.string a0_0,.slice A0_1 l0_1.length c0_1]) (t:=25) ?hr ?_;(case hd=>rfl);(case hg=>rfl);(case hr=>first|(go_simp;done)|(go_simp;rfl));intro gb475 hg w13 hbox hb;have n0_:=m_ (l5_ (puL HB.out) hb);have n1_:=m_ (hbox);have n2_:=m_ ((by rw [hg];exact (l6_ (puL HB.out)) : w.heap.size ≤ gb475));have n3_:=m_ ((by rw [hg];exact (l6_ (puL HB.out)) : w.heap.size ≤ gb475));revert n0_ n1_ n2_ n3_;clear HB;intro HB BK475 GW475 GE475;clear hb hbox hg;have hcz14_0 : w13.cell? ⟨gb475,0,none⟩ = some (.string a0_0):=(c_ BK475.out 0).trans rfl;have hcz14_1 : w13.cell? ⟨gb475,1,none⟩ = some (.slice A0_1 l0_1.length c0_1):=(c_ BK475.out 1).trans rfl)|((with_reducible refine gate_callee (f:=11) rfl ?_);refine goesL_ (some 6) rfl rfl Tryz.func11 (by kernel_rfl) rfl #[.agg #[.string a0_0,.slice A0_1 l0_1.length c0_1]] rfl lens ?_;(with_reducible refine (spec_StreamOk.calls k a0_0 _ _ l0_1 true _ ?side1 ?side2 A3.out).mono ?_);(case side1=>exact puC (Kd.C_below HR0_1.out HB.out));(case side2=>exact HC0_1.out);rintro e w15 ⟨rfl,hb⟩;refine ⟨_,rfl,?_⟩;have n0_:=m_ (blk_below (g:=gb475) (o:=.cells #[.string a0_0,.slice A0_1 l0_1.length c0_1] 25 (0,0)) (puB BK475.out) hb);have n1_:=m_ (l5_ (puM HB.out GE475.out) hb);revert n0_ n1_;clear BK475 HB;intro BK475 HB;(try clear hb);(try clear hb2);(try clear hk);(try clear hi);have hcz16_0 : w15.cell? ⟨gb475,0,none⟩ = some (.string a0_0):=(c_ BK475.out 0).trans rfl;have hcz16_1 : w15.cell? ⟨gb475,1,none⟩ = some (.slice A0_1 l0_1.length c0_1):=(c_ BK475.out 1).trans rfl)|(go_at_call 27;(with_reducible refine (spec_l6In.calls a1 0 (a0_0.size : Int) false _ A5.out).mono ?_);rintro e w' ⟨rfl,⟨nd,rfl⟩⟩))
   go_ret
   exact ⟨eqs,puM HB.out GE475.out⟩
 ·replace c4:=Bool.eq_false_iff.mpr c4
  subst c4
  replace H:=ifn H
  obtain rfl:=Option.some.inj H
  go_enter Tryz.func10,Tryz.ntmps10
  go_wp2_with (first|((with_reducible refine gate_dst (N:=2) rfl ?_);(try (refine gate_guard (by rfl) ?_;dsimp only));refine box_event ?hg (N:=2) ?hd (cs:=#[.string a0_0,.slice A0_1 l0_1.length c0_1]) (t:=25) ?hr ?_;(case hd=>rfl);(case hg=>rfl);(case hr=>first|(go_simp;done)|(go_simp;rfl));intro gb475 hg w17 hbox hb;have n0_:=m_ (l5_ (puL HB.out) hb);have n1_:=m_ (hbox);have n2_:=m_ ((by rw [hg];exact (l6_ (puL HB.out)) : w.heap.size ≤ gb475));have n3_:=m_ ((by rw [hg];exact (l6_ (puL HB.out)) : w.heap.size ≤ gb475));revert n0_ n1_ n2_ n3_;clear HB;intro HB BK475 GW475 GE475;clear hb hbox hg;have hcz18_0 : w17.cell? ⟨gb475,0,none⟩ = some (.string a0_0):=(c_ BK475.out 0).trans rfl;have hcz18_1 : w17.cell? ⟨gb475,1,none⟩ = some (.slice A0_1 l0_1.length c0_1):=(c_ BK475.out 1).trans rfl)|((with_reducible refine gate_callee (f:=11) rfl ?_);refine goesL_ (some 6) rfl rfl Tryz.func11 (by kernel_rfl) rfl #[.agg #[.string a0_0,.slice A0_1 l0_1.length c0_1]] rfl lens ?_;(with_reducible refine (spec_StreamOk.calls k a0_0 _ _ l0_1 false _ ?side1 ?side2 A3.out).mono ?_);(case side1=>exact puC (Kd.C_below HR0_1.out HB.out));(case side2=>exact HC0_1.out);rintro e w19 ⟨rfl,hb⟩;refine ⟨_,rfl,?_⟩;have n0_:=m_ (blk_below (g:=gb475) (o:=.cells #[.string a0_0,.slice A0_1 l0_1.length c0_1] 25 (0,0)) (puB BK475.out) hb);have n1_:=m_ (l5_ (puM HB.out GE475.out) hb);revert n0_ n1_;clear BK475 HB;intro BK475 HB;(try clear hb);(try clear hb2);(try clear hk);(try clear hi)))
  go_ret
  exact ⟨eqs,puM HB.out GE475.out⟩

end Go.Proofs.YtkcjmmhleepjeaaGreatDoor.A
