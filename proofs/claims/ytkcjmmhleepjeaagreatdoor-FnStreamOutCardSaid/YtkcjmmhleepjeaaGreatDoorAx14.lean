-- Printed by myprint.py (wip/tools) out of the translation. Not trusted: Lean checks it.
import Derived.Test.YtkcjmmhleepjeaaGreatDoorAx0
import Derived.Test.YtkcjmmhleepjeaaGreatDoorAx12
import Derived.Test.YtkcjmmhleepjeaaGreatDoorAx13
namespace Go.Proofs.YtkcjmmhleepjeaaGreatDoor.A
open Go.RowKit Go.Proofs.YtkcjmmhleepjeaaGreatDoorW.PrintWords Go.Proofs.YtkcjmmhleepjeaaGreatDoorW.PrintLast Go.Proofs.YtkcjmmhleepjeaaGreatDoorW.PrintMore
attribute [local go_sem] max2_int min2_int max_two min_two max_three min_three max_four min_four
set_option linter.unusedVariables false
set_option maxHeartbeats 8000000
set_option maxRecDepth 100000
set_option linter.unusedSimpArgs false

/-! ### impl_piece: function 52 -/
def impl_piece.f (a0 : ByteArray) : Option (Int × Bool × Int × Int) := (strings_CutPrefix.f a0 (⟨#[64]⟩ : ByteArray)).bind fun bt408 => (if bt408.2 = true then ((impl_readName.f bt408.1).bind fun bt410 => (if bt410.2.2 = true then ((impl_name.f bt410.1 bt410.2.1).bind fun t414 => (some ((t414.size : Int), true, bt410.1, bt410.2.1))) else (some (1, false, 0, 0)))) else (some (1, false, 0, 0)))
theorem impl_piece.calls (a0 : ByteArray) (r1 : Int) (r2 : Bool) (r3 : Int) (r4 : Int) (w : World) (hG : GV w) (h : impl_piece.f a0 = some (r1, r2, r3, r4)) :
  Calls Tryz.prog 52 #[.string a0] w fun e w'=>e = .returned (.agg #[.int .i64 r1,.bool r2,.int .i64 r3,.int .i64 r4]) ∧ Below w.heap.size w w':=by
 have hu51:=Tryz.underlying51
 have hu49:=Tryz.underlying49
 have HG:=m_ hG
 clear hG
 have HB:=m_ (Below.refl w.heap.size w)
 have H : ((strings_CutPrefix.f a0 (⟨#[64]⟩ : ByteArray)).bind fun bt408=>(if bt408.2 = true then ((impl_readName.f bt408.1).bind fun bt410=>(if bt410.2.2 = true then ((impl_name.f bt410.1 bt410.2.1).bind fun t414=>(some ((t414.size : Int),true,bt410.1,bt410.2.1))) else (some (1,false,0,0)))) else (some (1,false,0,0)))) = some (r1,r2,r3,r4):=h
 clear h
 replace H:=Option.bind_eq_some_iff.mp H
 obtain ⟨⟨t408,t409⟩,A20,H⟩:=H
 replace H : (if t409 = true then ((impl_readName.f t408).bind fun bt410=>(if bt410.2.2 = true then ((impl_name.f bt410.1 bt410.2.1).bind fun t414=>(some ((t414.size : Int),true,bt410.1,bt410.2.1))) else (some (1,false,0,0)))) else (some (1,false,0,0))) = some (r1,r2,r3,r4):=H
 have A2:=m_ A20
 clear A20
 by_cases c3 : t409 = true
 ·subst c3
  replace H:=ifp H rfl
  replace H:=Option.bind_eq_some_iff.mp H
  obtain ⟨⟨t410,t411,t412⟩,A40,H⟩:=H
  replace H : (if t412 = true then ((impl_name.f t410 t411).bind fun t414=>(some ((t414.size : Int),true,t410,t411))) else (some (1,false,0,0))) = some (r1,r2,r3,r4):=H
  have A4:=m_ A40
  clear A40
  by_cases c5 : t412 = true
  ·subst c5
   replace H:=ifp H rfl
   replace H:=Option.bind_eq_some_iff.mp H
   obtain ⟨t414,A60,H⟩:=H
   have A6:=m_ A60
   clear A60
   simp only [Option.some.injEq,Prod.mk.injEq] at H
   obtain ⟨rfl,rfl,rfl,rfl⟩:=H
   go_enter Tryz.func52,Tryz.ntmps52
   try go_wp2_with (first|((with_reducible refine gate_dst (N:=2) rfl ?_);refine box_event ?hg (N:=2) ?hd (cs:=#[.int .i64 0,.bool false,.int .i64 0,.int .i64 0]) (t:=51) ?hr ?_;(case hd=>rfl);(case hg=>rfl);(case hr=>first|(go_simp;done)|(go_simp;rfl));intro gb407 hg w7 hbox hb;have n0_:=m_ (l5_ (puL HB.out) hb);have n1_:=m_ (hbox);have n2_:=m_ ((by rw [hg];exact (l6_ (puL HB.out)) : w.heap.size ≤ gb407));have n3_:=m_ ((by rw [hg];exact (l6_ (puL HB.out)) : w.heap.size ≤ gb407));revert n0_ n1_ n2_ n3_;clear HB;intro HB BK407 GW407 GE407;clear hb hbox hg)|((with_reducible refine gate_callee (f:=64) rfl ?_);refine goesL_ (some 9) rfl rfl Tryz.func64 (by kernel_rfl) rfl #[.string a0,.string (⟨#[64]⟩ : ByteArray)] rfl lens ?_;(with_reducible refine (strings_CutPrefix.calls a0 (⟨#[64]⟩ : ByteArray) t408 true _ A2.out).mono ?_);rintro e w' ⟨rfl,⟨nd,rfl⟩⟩;refine ⟨_,rfl,?_⟩;(try (rw [drewN_self w7];generalize hq_ : World.drewN w7 _ = w7;have n0_ : Aside0 (w7.heap[gb407]? = some (.cells #[.int .i64 0,.bool false,.int .i64 0,.int .i64 0] 51 (0,0))):=⟨by rw [← hq_];exact (puB BK407.out)⟩;have n1_ : Aside0 (Below w.heap.size w w7):=⟨by rw [← hq_];exact (puM HB.out GE407.out)⟩;clear BK407 HB hq_;have BK407:=n0_;have HB:=n1_;clear n0_ n1_)))|((with_reducible refine gate_callee (f:=65) rfl ?_);refine goesL_ (some 15) rfl rfl Tryz.func65 (by kernel_rfl) rfl #[.string t408] rfl lens ?_;(with_reducible refine (impl_readName.calls t408 t410 t411 true _ ?side1 A4.out).mono ?_);(case side1=>first|(with_reducible exact HG.out)|exact GV_below HG.out (puM HB.out GE407.out));rintro e w8 ⟨rfl,hb⟩;refine ⟨_,rfl,?_⟩;have n0_:=m_ (blk_below (g:=gb407) (o:=.cells #[.int .i64 0,.bool false,.int .i64 0,.int .i64 0] 51 (0,0)) (puB BK407.out) hb);have n1_:=m_ (l5_ (puM HB.out GE407.out) hb);revert n0_ n1_;clear BK407 HB;intro BK407 HB;(try clear hb);(try clear hb2);(try clear hk);(try clear hi))|((with_reducible refine gate_dst (N:=5) rfl ?_);refine box_event ?hg (N:=5) ?hd (cs:=#[.int .i64 0,.int .i64 0]) (t:=49) ?hr ?_;(case hd=>rfl);(case hg=>rfl);(case hr=>first|(go_simp;done)|(go_simp;rfl));intro gb413 hg w9 hbox hb;have n0_:=m_ (blk_below (g:=gb407) (o:=.cells #[.int .i64 0,.bool false,.int .i64 0,.int .i64 0] 51 (0,0)) (puB BK407.out) hb);have n1_:=m_ (l5_ (puM HB.out GE407.out) hb);have n2_:=m_ (hbox);have n3_:=m_ ((by rw [hg];exact (l6_ (puM HB.out GE407.out)) : w.heap.size ≤ gb413));have n4_:=n3_;have n5_:=m_ ((by rw [hg];exact Nat.ne_of_lt (blk_lt (g:=gb407) (o:=.cells #[.int .i64 0,.bool false,.int .i64 0,.int .i64 0] 51 (0,0)) (puB BK407.out)) : gb407 ≠ gb413));have n6_:=m_ n5_.out.symm;revert n0_ n1_ n2_ n3_ n4_ n5_ n6_;clear BK407 HB;intro BK407 HB BK413 GW413 GE413 NB407_413 NB413_407;clear hb hbox hg;have hnb10:=NB413_407.out;have hnc10:=NB407_413.out;have hcz11_0 : w9.cell? ⟨gb413,0,none⟩ = some (.int .i64 0):=(c_ BK413.out 0).trans rfl;have hcz11_1 : w9.cell? ⟨gb413,1,none⟩ = some (.int .i64 0):=(c_ BK413.out 1).trans rfl;have hfz11_0:=f_ BK413.out 0;have hfz11_1:=f_ BK413.out 1))
   have n0_ : Aside0 (((w9.setCell ⟨gb413,0,none⟩ (.int .i64 t410)).setCell ⟨gb413,1,none⟩ (.int .i64 t411)).heap[gb407]? = some (.cells #[.int .i64 0,.bool false,.int .i64 0,.int .i64 0] 51 (0,0))):=⟨by (with_reducible repeat first|apply b1_|apply b2_|apply b3_);refine b4_ ?_ NB407_413.out _;(with_reducible repeat first|apply b1_|apply b2_|apply b3_);refine b4_ ?_ NB407_413.out _;(with_reducible repeat first|apply b1_|apply b2_|apply b3_);exact BK407.out⟩
   have n1_ : Aside0 (((w9.setCell ⟨gb413,0,none⟩ (.int .i64 t410)).setCell ⟨gb413,1,none⟩ (.int .i64 t411)).heap[gb413]? = some (.cells #[.int .i64 t410,.int .i64 t411] 49 (0,0))):=⟨by (with_reducible repeat first|apply b1_|apply b2_|apply b3_);refine blk_put (cs:=#[.int .i64 t410,.int .i64 0]) ?_ 1 _ rfl;(with_reducible repeat first|apply b1_|apply b2_|apply b3_);refine blk_put (cs:=#[.int .i64 0,.int .i64 0]) ?_ 0 _ rfl;(with_reducible repeat first|apply b1_|apply b2_|apply b3_);exact BK413.out⟩
   have n2_ : Aside0 (Below w.heap.size w ((w9.setCell ⟨gb413,0,none⟩ (.int .i64 t410)).setCell ⟨gb413,1,none⟩ (.int .i64 t411))):=⟨puN HB.out GE407.out GE413.out⟩
   (try clear BK407)
   (try clear BK413)
   (try clear HB)
   generalize ((w9.setCell ⟨gb413,0,none⟩ (.int .i64 t410)).setCell ⟨gb413,1,none⟩ (.int .i64 t411)) = w12 at n0_ n1_ n2_ ⊢
   have BK407:=n0_
   have BK413:=n1_
   have HB:=n2_
   clear n0_ n1_ n2_
   have n0_:=m_ (b2_ BK407.out)
   have n1_:=m_ (b2_ BK413.out)
   have n2_:=m_ (l3_ HB.out)
   clear BK407
   clear BK413
   clear HB
   have BK407:=n0_
   have BK413:=n1_
   have HB:=n2_
   clear n0_ n1_ n2_
   refine start_ (n:=6) (S:=fun w'=>w'.cell? ⟨gb413,0,none⟩ = some (.int .i64 t410) ∧ w'.cell? ⟨gb413,1,none⟩ = some (.int .i64 t411)) (ds:=[]) #[false,false,false,false,false,false] (by kernel_rfl) rfl rfl ⟨(c_ BK413.out 0).trans rfl,(c_ BK413.out 1).trans rfl⟩ (fun hHeld=>?_)
   generalize w12.drew = w13 at BK407 BK413 HB hHeld ⊢
   refine take_ (i:=0) (N:=some 19) (v:=?_) (a':=?_) #[true,false,false,false,false,false] rfl rfl (by kernel_rfl) (fun _ _ _ h=>h) (Or.inl ⟨by rfl,?_⟩) hHeld ?_ ?_
   rotate_left
   ·rintro w' ⟨s0,s1⟩
    go_simp
    with_reducible rfl
   rotate_left
   ·simp only [Act.put,s1_,s2_,s3_,i64_w,i32_w]
    rfl
   refine take_ (i:=3) (N:=some 22) (v:=?_) (a':=?_) #[true,false,false,true,false,false] rfl rfl (by kernel_rfl) (fun _ _ _ h=>h) (Or.inl ⟨by rfl,?_⟩) hHeld ?_ ?_
   rotate_left
   ·rintro w' ⟨s0,s1⟩
    go_simp
    with_reducible rfl
   rotate_left
   ·simp only [Act.put,s1_,s2_,s3_,i64_w,i32_w]
    rfl
   refine one_ (i:=1) (N:=some 20) #[true,true,false,true,false,false] rfl rfl (by kernel_rfl) (by decide) (fun K hK=>?_)
   refine goes_ Tryz.func66 (by kernel_rfl) rfl #[.agg #[.int .i64 t410,.int .i64 t411]] (by rfl) rfl rfl lens ?_
   with_reducible refine (impl_name.calls t410 t411 t414 _ A6.out).mono ?_
   rintro e w14 ⟨rfl,hb⟩
   refine ⟨_,rfl,?_⟩
   have n0_:=m_ (blk_below (g:=gb407) (o:=.cells #[.int .i64 0,.bool false,.int .i64 0,.int .i64 0] 51 (0,0)) (puB BK407.out) hb)
   have n1_:=m_ (blk_below (g:=gb413) (o:=.cells #[.int .i64 t410,.int .i64 t411] 49 (0,0)) (puB BK413.out) hb)
   have n2_:=m_ (l5_ (puN HB.out GE407.out GE413.out) hb)
   clear BK407
   clear BK413
   clear HB
   have BK407:=n0_
   have BK413:=n1_
   have HB:=n2_
   clear n0_ n1_ n2_
   (try clear hb)
   (try clear hb2)
   (try clear hk)
   (try clear hi)
   refine hK.out _ _ ⟨(c_ BK413.out 0).trans rfl,(c_ BK413.out 1).trans rfl⟩ (fun hHeld=>?_)
   clear hK K
   refine norm_ (a':=?_) ?_ ?_
   rotate_left
   ·show Act.put _ (some 20) _ = _
    simp only [Act.put,s1_,s2_,s3_,i64_w,i32_w]
    rfl
   refine pureK 2 (some 21) ?_
   refine pureK 4 (some 23) ?_
   refine one_ (i:=5) (N:=none) #[true,true,true,true,true,true] rfl rfl (by kernel_rfl) (by decide) (fun K hK=>?_)
   have hs15 : w14.cell? ⟨gb407,0,none⟩ = some (.int .i64 0):=(c_ BK407.out 0).trans rfl
   have hfs15:=f_ BK407.out 0
   have hns15_1:=NB413_407.out
   have hms15_1:=NB407_413.out
   have hs16 : w14.cell? ⟨gb407,1,none⟩ = some (.bool false):=(c_ BK407.out 1).trans rfl
   have hfs16:=f_ BK407.out 1
   have hns16_1:=NB413_407.out
   have hms16_1:=NB407_413.out
   have hs17 : w14.cell? ⟨gb407,2,none⟩ = some (.int .i64 0):=(c_ BK407.out 2).trans rfl
   have hfs17:=f_ BK407.out 2
   have hns17_1:=NB413_407.out
   have hms17_1:=NB407_413.out
   have hs18 : w14.cell? ⟨gb407,3,none⟩ = some (.int .i64 0):=(c_ BK407.out 3).trans rfl
   have hfs18:=f_ BK407.out 3
   have hns18_1:=NB413_407.out
   have hms18_1:=NB407_413.out
   refine skip_ (w1:=?_) (by rfl) rfl ?_ ?_
   rotate_left
   ·go_simp
    rfl
   refine hK.out _ _ ⟨((cell_far (p:=⟨gb407,_,none⟩) NB413_407.out _).trans (((cell_far (p:=⟨gb407,_,none⟩) NB413_407.out _).trans (((cell_far (p:=⟨gb407,_,none⟩) NB413_407.out _).trans (((cell_far (p:=⟨gb407,_,none⟩) NB413_407.out _).trans (hHeld.1)))))))),((cell_far (p:=⟨gb407,_,none⟩) NB413_407.out _).trans (((cell_far (p:=⟨gb407,_,none⟩) NB413_407.out _).trans (((cell_far (p:=⟨gb407,_,none⟩) NB413_407.out _).trans (((cell_far (p:=⟨gb407,_,none⟩) NB413_407.out _).trans (hHeld.2))))))))⟩ (fun hHeld=>?_)
   clear hK K
   refine done_ (by kernel_rfl) ?_
   try go_wp2
   refine bodyPost_ret (results_cell_row rfl _ _ gb407 51 #[.int .i64 (t414.size : Int),.bool true,.int .i64 t410,.int .i64 t411] (0,0) _ rfl (by (with_reducible repeat first|apply b1_|apply b2_|apply b3_);refine blk_put (cs:=#[.int .i64 (t414.size : Int),.bool true,.int .i64 t410,.int .i64 0]) ?_ 3 _ rfl;(with_reducible repeat first|apply b1_|apply b2_|apply b3_);refine blk_put (cs:=#[.int .i64 (t414.size : Int),.bool true,.int .i64 0,.int .i64 0]) ?_ 2 _ rfl;(with_reducible repeat first|apply b1_|apply b2_|apply b3_);refine blk_put (cs:=#[.int .i64 (t414.size : Int),.bool false,.int .i64 0,.int .i64 0]) ?_ 1 _ rfl;(with_reducible repeat first|apply b1_|apply b2_|apply b3_);refine blk_put (cs:=#[.int .i64 0,.bool false,.int .i64 0,.int .i64 0]) ?_ 0 _ rfl;(with_reducible repeat first|apply b1_|apply b2_|apply b3_);exact BK407.out) Tryz.underlying51 rfl (by kernel_rfl)) rfl ?_
   exact ⟨eqs,puN HB.out GE407.out GE413.out⟩
  ·replace c5:=Bool.eq_false_iff.mpr c5
   subst c5
   replace H:=ifn H
   simp only [Option.some.injEq,Prod.mk.injEq] at H
   obtain ⟨rfl,rfl,rfl,rfl⟩:=H
   go_enter Tryz.func52,Tryz.ntmps52
   go_wp2_with (first|((with_reducible refine gate_dst (N:=2) rfl ?_);refine box_event ?hg (N:=2) ?hd (cs:=#[.int .i64 0,.bool false,.int .i64 0,.int .i64 0]) (t:=51) ?hr ?_;(case hd=>rfl);(case hg=>rfl);(case hr=>first|(go_simp;done)|(go_simp;rfl));intro gb407 hg w19 hbox hb;have n0_:=m_ (l5_ (puL HB.out) hb);have n1_:=m_ (hbox);have n2_:=m_ ((by rw [hg];exact (l6_ (puL HB.out)) : w.heap.size ≤ gb407));have n3_:=m_ ((by rw [hg];exact (l6_ (puL HB.out)) : w.heap.size ≤ gb407));revert n0_ n1_ n2_ n3_;clear HB;intro HB BK407 GW407 GE407;clear hb hbox hg)|((with_reducible refine gate_callee (f:=64) rfl ?_);refine goesL_ (some 9) rfl rfl Tryz.func64 (by kernel_rfl) rfl #[.string a0,.string (⟨#[64]⟩ : ByteArray)] rfl lens ?_;(with_reducible refine (strings_CutPrefix.calls a0 (⟨#[64]⟩ : ByteArray) t408 true _ A2.out).mono ?_);rintro e w' ⟨rfl,⟨nd,rfl⟩⟩;refine ⟨_,rfl,?_⟩;(try (rw [drewN_self w19];generalize hq_ : World.drewN w19 _ = w19;have n0_ : Aside0 (w19.heap[gb407]? = some (.cells #[.int .i64 0,.bool false,.int .i64 0,.int .i64 0] 51 (0,0))):=⟨by rw [← hq_];exact (puB BK407.out)⟩;have n1_ : Aside0 (Below w.heap.size w w19):=⟨by rw [← hq_];exact (puM HB.out GE407.out)⟩;clear BK407 HB hq_;have BK407:=n0_;have HB:=n1_;clear n0_ n1_)))|((with_reducible refine gate_callee (f:=65) rfl ?_);refine goesL_ (some 15) rfl rfl Tryz.func65 (by kernel_rfl) rfl #[.string t408] rfl lens ?_;(with_reducible refine (impl_readName.calls t408 t410 t411 false _ ?side1 A4.out).mono ?_);(case side1=>first|(with_reducible exact HG.out)|exact GV_below HG.out (puM HB.out GE407.out));rintro e w20 ⟨rfl,hb⟩;refine ⟨_,rfl,?_⟩;have n0_:=m_ (blk_below (g:=gb407) (o:=.cells #[.int .i64 0,.bool false,.int .i64 0,.int .i64 0] 51 (0,0)) (puB BK407.out) hb);have n1_:=m_ (l5_ (puM HB.out GE407.out) hb);revert n0_ n1_;clear BK407 HB;intro BK407 HB;(try clear hb);(try clear hb2);(try clear hk);(try clear hi))|((with_reducible refine gate_dst (N:=5) rfl ?_);refine box_event ?hg (N:=5) ?hd (cs:=#[.int .i64 0,.int .i64 0]) (t:=49) ?hr ?_;(case hd=>rfl);(case hg=>rfl);(case hr=>first|(go_simp;done)|(go_simp;rfl));intro gb413 hg w21 hbox hb;have n0_:=m_ (blk_below (g:=gb407) (o:=.cells #[.int .i64 0,.bool false,.int .i64 0,.int .i64 0] 51 (0,0)) (puB BK407.out) hb);have n1_:=m_ (l5_ (puM HB.out GE407.out) hb);have n2_:=m_ (hbox);have n3_:=m_ ((by rw [hg];exact (l6_ (puM HB.out GE407.out)) : w.heap.size ≤ gb413));have n4_:=n3_;have n5_:=m_ ((by rw [hg];exact Nat.ne_of_lt (blk_lt (g:=gb407) (o:=.cells #[.int .i64 0,.bool false,.int .i64 0,.int .i64 0] 51 (0,0)) (puB BK407.out)) : gb407 ≠ gb413));have n6_:=m_ n5_.out.symm;revert n0_ n1_ n2_ n3_ n4_ n5_ n6_;clear BK407 HB;intro BK407 HB BK413 GW413 GE413 NB407_413 NB413_407;clear hb hbox hg;have hnb22:=NB413_407.out;have hnc22:=NB407_413.out;have hcz23_0 : w21.cell? ⟨gb413,0,none⟩ = some (.int .i64 0):=(c_ BK413.out 0).trans rfl;have hcz23_1 : w21.cell? ⟨gb413,1,none⟩ = some (.int .i64 0):=(c_ BK413.out 1).trans rfl;have hfz23_0:=f_ BK413.out 0;have hfz23_1:=f_ BK413.out 1;have hcz24_0 : w21.cell? ⟨gb407,0,none⟩ = some (.int .i64 0):=(c_ BK407.out 0).trans rfl;have hcz24_1 : w21.cell? ⟨gb407,1,none⟩ = some (.bool false):=(c_ BK407.out 1).trans rfl;have hcz24_2 : w21.cell? ⟨gb407,2,none⟩ = some (.int .i64 0):=(c_ BK407.out 2).trans rfl;have hcz24_3 : w21.cell? ⟨gb407,3,none⟩ = some (.int .i64 0):=(c_ BK407.out 3).trans rfl;have hfz24_0:=f_ BK407.out 0;have hfz24_1:=f_ BK407.out 1;have hfz24_2:=f_ BK407.out 2;have hfz24_3:=f_ BK407.out 3))
   refine bodyPost_ret (results_cell_row rfl _ _ gb407 51 #[.int .i64 1,.bool false,.int .i64 0,.int .i64 0] (0,0) _ rfl (by (with_reducible repeat first|apply b1_|apply b2_|apply b3_);refine blk_put (cs:=#[.int .i64 1,.bool false,.int .i64 0,.int .i64 0]) ?_ 3 _ rfl;(with_reducible repeat first|apply b1_|apply b2_|apply b3_);refine blk_put (cs:=#[.int .i64 1,.bool false,.int .i64 0,.int .i64 0]) ?_ 2 _ rfl;(with_reducible repeat first|apply b1_|apply b2_|apply b3_);refine blk_put (cs:=#[.int .i64 1,.bool false,.int .i64 0,.int .i64 0]) ?_ 1 _ rfl;(with_reducible repeat first|apply b1_|apply b2_|apply b3_);refine blk_put (cs:=#[.int .i64 0,.bool false,.int .i64 0,.int .i64 0]) ?_ 0 _ rfl;(with_reducible repeat first|apply b1_|apply b2_|apply b3_);refine b4_ ?_ NB407_413.out _;(with_reducible repeat first|apply b1_|apply b2_|apply b3_);refine b4_ ?_ NB407_413.out _;(with_reducible repeat first|apply b1_|apply b2_|apply b3_);exact BK407.out) Tryz.underlying51 rfl (by kernel_rfl)) rfl ?_
   exact ⟨eqs,puN HB.out GE407.out GE413.out⟩
 ·replace c3:=Bool.eq_false_iff.mpr c3
  subst c3
  replace H:=ifn H
  simp only [Option.some.injEq,Prod.mk.injEq] at H
  obtain ⟨rfl,rfl,rfl,rfl⟩:=H
  go_enter Tryz.func52,Tryz.ntmps52
  go_wp2_with (first|((with_reducible refine gate_dst (N:=2) rfl ?_);refine box_event ?hg (N:=2) ?hd (cs:=#[.int .i64 0,.bool false,.int .i64 0,.int .i64 0]) (t:=51) ?hr ?_;(case hd=>rfl);(case hg=>rfl);(case hr=>first|(go_simp;done)|(go_simp;rfl));intro gb407 hg w25 hbox hb;have n0_:=m_ (l5_ (puL HB.out) hb);have n1_:=m_ (hbox);have n2_:=m_ ((by rw [hg];exact (l6_ (puL HB.out)) : w.heap.size ≤ gb407));have n3_:=m_ ((by rw [hg];exact (l6_ (puL HB.out)) : w.heap.size ≤ gb407));revert n0_ n1_ n2_ n3_;clear HB;intro HB BK407 GW407 GE407;clear hb hbox hg)|((with_reducible refine gate_callee (f:=64) rfl ?_);refine goesL_ (some 9) rfl rfl Tryz.func64 (by kernel_rfl) rfl #[.string a0,.string (⟨#[64]⟩ : ByteArray)] rfl lens ?_;(with_reducible refine (strings_CutPrefix.calls a0 (⟨#[64]⟩ : ByteArray) t408 false _ A2.out).mono ?_);rintro e w' ⟨rfl,⟨nd,rfl⟩⟩;refine ⟨_,rfl,?_⟩;(try (rw [drewN_self w25];generalize hq_ : World.drewN w25 _ = w25;have n0_ : Aside0 (w25.heap[gb407]? = some (.cells #[.int .i64 0,.bool false,.int .i64 0,.int .i64 0] 51 (0,0))):=⟨by rw [← hq_];exact (puB BK407.out)⟩;have n1_ : Aside0 (Below w.heap.size w w25):=⟨by rw [← hq_];exact (puM HB.out GE407.out)⟩;clear BK407 HB hq_;have BK407:=n0_;have HB:=n1_;clear n0_ n1_));have hcz26_0 : w25.cell? ⟨gb407,0,none⟩ = some (.int .i64 0):=(c_ BK407.out 0).trans rfl;have hcz26_1 : w25.cell? ⟨gb407,1,none⟩ = some (.bool false):=(c_ BK407.out 1).trans rfl;have hcz26_2 : w25.cell? ⟨gb407,2,none⟩ = some (.int .i64 0):=(c_ BK407.out 2).trans rfl;have hcz26_3 : w25.cell? ⟨gb407,3,none⟩ = some (.int .i64 0):=(c_ BK407.out 3).trans rfl;have hfz26_0:=f_ BK407.out 0;have hfz26_1:=f_ BK407.out 1;have hfz26_2:=f_ BK407.out 2;have hfz26_3:=f_ BK407.out 3))
  refine bodyPost_ret (results_cell_row rfl _ _ gb407 51 #[.int .i64 1,.bool false,.int .i64 0,.int .i64 0] (0,0) _ rfl (by (with_reducible repeat first|apply b1_|apply b2_|apply b3_);refine blk_put (cs:=#[.int .i64 1,.bool false,.int .i64 0,.int .i64 0]) ?_ 3 _ rfl;(with_reducible repeat first|apply b1_|apply b2_|apply b3_);refine blk_put (cs:=#[.int .i64 1,.bool false,.int .i64 0,.int .i64 0]) ?_ 2 _ rfl;(with_reducible repeat first|apply b1_|apply b2_|apply b3_);refine blk_put (cs:=#[.int .i64 1,.bool false,.int .i64 0,.int .i64 0]) ?_ 1 _ rfl;(with_reducible repeat first|apply b1_|apply b2_|apply b3_);refine blk_put (cs:=#[.int .i64 0,.bool false,.int .i64 0,.int .i64 0]) ?_ 0 _ rfl;(with_reducible repeat first|apply b1_|apply b2_|apply b3_);exact BK407.out) Tryz.underlying51 rfl (by kernel_rfl)) rfl ?_
  exact ⟨eqs,puM HB.out GE407.out⟩

/-! ### slices_Clip_Piece: function 53 -/
/-- The same row, with no more capacity than it has elements. -/
def slices_Clip_Piece.f (l0 : List (S51)) : Option (List (S51)) := some l0
theorem slices_Clip_Piece.calls (P0_ : Nat → Prop) (u9000_ : Value) (l0 : List (S51)) (r : List (S51)) (w0 w : World) (hB : Below w0.heap.size w0 w) (ho0 : Kd.R k51 51 w w0.heap.size P0_ u9000_ l0) (h : slices_Clip_Piece.f l0 = some r) :
  Calls Tryz.prog 53 #[u9000_] w fun e w'=>∃ v0_ : Value,e = .returned v0_ ∧ Kd.R k51 51 w' w0.heap.size (fun k_=>(P0_ k_ ∨ w.heap.size ≤ k_)) v0_ r ∧ Below w0.heap.size w0 w' ∧ Kept w w' (fun k_=>P0_ k_):=by
 obtain rfl:=Option.some.inj h
 obtain ⟨hok,inner,ho,hr⟩:=ho0
 have fin : ∀ v : Value,v.ownBlock = u9000_.ownBlock → Go.Proofs.YtkcjmmhleepjeaaGreatDoorW.ownsWide w w0.heap.size 51 k51.sz v l0.length inner → Kd.R k51 51 w w0.heap.size (fun k_=>(P0_ k_ ∨ w.heap.size ≤ k_)) v l0:=by
  intro v hv hw
  refine ⟨fun k hk=>.inl (hok k (hv ▸ hk)),inner,hw,hr.imp_ (fun _ _ hp=>Kd.M_mono _ (fun k hk=>⟨.inl hk.1,hv ▸ hk.2⟩) hp)⟩
 rcases ho.2 with ⟨rfl,hn⟩|⟨g,cap,cur,rfl,hb,hg,h4,h5,h6,h7⟩
 ·go_enter Tryz.func53,Tryz.ntmps53
  go_wp2
  go_ret
  exact ⟨_,rfl,fin _ rfl ho,hB,Kept.refl _ _⟩
 ·have e0 : (0 : Int) ≤ (l0.length : Int):=Int.natCast_nonneg _
  have e1 : (l0.length : Int) ≤ (cap : Int):=Int.ofNat_le.2 h4
  go_enter Tryz.func53,Tryz.ntmps53
  go_wp2
  go_ret
  exact ⟨_,rfl,fin _ rfl ho.clip,hB,Kept.refl _ _⟩

/-! ### impl_pieces: function 38 -/
def impl_pieces.l0 : Nat → List (S51) → ByteArray → Option ((List (S51)))
 | 0, _, _ => none
 | k + 1, x3, x4 => if x4.toList = ([] : List UInt8) then ((slices_Clip_Piece.f x3).bind fun t419 => (some t419)) else ((impl_piece.f x4).bind fun bt422 => (if x3.length < 4398046511104 then (if 0 ≤ bt422.1 then (if bt422.1 ≤ (x4.size : Int) then (impl_pieces.l0 k (x3 ++ [(⟨bt422.1, bt422.2.1, (⟨bt422.2.2.1, bt422.2.2.2⟩ : S49)⟩ : S51)]) (x4.extract (bt422.1 : Int).toNat x4.size)) else (none)) else (none)) else (none)))
def impl_pieces.f (k : Nat) (a0 : ByteArray) : Option ((List (S51))) := (impl_held.f k a0).bind fun t418 => (if 0 ≤ (wrap64 ((a0.size : Int) - t418)) then (if (wrap64 ((a0.size : Int) - t418)) ≤ (a0.size : Int) then (impl_pieces.l0 k (([] : List (S51))) (a0.extract 0 ((wrap64 ((a0.size : Int) - t418)) : Int).toNat)) else (none)) else (none))
theorem impl_pieces.mono_l : ∀ k, (∀ y0 y1, LeO (impl_pieces.l0 k y0 y1) (impl_pieces.l0 (k + 1) y0 y1))
 | 0 => fun _ _ r h => by simp [impl_pieces.l0] at h
 | k + 1 => by
  have ih0:=impl_pieces.mono_l k
  ·intro y0 y1
   unfold impl_pieces.l0
   exact leo2 ih0 impl_held.mono
theorem impl_pieces.mono : ∀ a0 k, LeO (impl_pieces.f k a0) (impl_pieces.f (k + 1) a0) := by
 intro a0 k
 have ih0:=impl_pieces.mono_l k
 unfold impl_pieces.f
 exact leo2 ih0 impl_held.mono
theorem impl_pieces.calls (k : Nat) (a0 : ByteArray) (r : List (S51)) (w : World) (hG : GV w) (h : impl_pieces.f k a0 = some r) :
  Calls Tryz.prog 38 #[.string a0] w fun e w'=>∃ v0_ : Value,e = .returned (v0_) ∧ Kd.R k51 51 w' w.heap.size (fun _=>True) v0_ r ∧ Below w.heap.size w w':=by
 have hu51:=Tryz.underlying51
 have HG:=m_ hG
 clear hG
 have HB:=m_ (Below.refl w.heap.size w)
 have H : ((impl_held.f k a0).bind fun t418=>(if 0 ≤ (wrap64 ((a0.size : Int) - t418)) then (if (wrap64 ((a0.size : Int) - t418)) ≤ (a0.size : Int) then (impl_pieces.l0 k (([] : List (S51))) (a0.extract 0 ((wrap64 ((a0.size : Int) - t418)) : Int).toNat)) else (none)) else (none))) = some r:=h
 clear h
 obtain ⟨y415,hy415⟩ : ∃ y_ : List (S51),y_ = (([] : List (S51))):=⟨_,rfl⟩
 replace H : ((impl_held.f k a0).bind fun t418=>(if 0 ≤ (wrap64 ((a0.size : Int) - t418)) then (if (wrap64 ((a0.size : Int) - t418)) ≤ (a0.size : Int) then (impl_pieces.l0 k y415 (a0.extract 0 ((wrap64 ((a0.size : Int) - t418)) : Int).toNat)) else (none)) else (none))) = some r:=by first|(rw [hy415];with_reducible exact H)|(have H2_:=(Option.bind_some _ _).symm.trans H;rw [hy415];with_reducible exact H2_)|(have H2_:=(Option.bind_some _ _).symm.trans H;with_reducible exact H2_)|with_reducible exact H|(rw [hy415];exact H)|exact H
 have Ny415:=m_ hy415
 clear hy415
 replace H:=Option.bind_eq_some_iff.mp H
 obtain ⟨t418,A20,H⟩:=H
 have A2:=m_ A20
 clear A20
 obtain ⟨ji3,hji3⟩ : ∃ j_ : Int,(wrap64 ((a0.size : Int) - t418)) = j_:=⟨_,rfl⟩
 replace H : (if 0 ≤ (ji3) then (if (ji3) ≤ (a0.size : Int) then (impl_pieces.l0 k y415 (a0.extract 0 ((ji3) : Int).toNat)) else (none)) else (none)) = some r:=by first|(rw [hji3] at H;exact H)|(simp only [hji3] at H ⊢;exact H)
 (try rw [hji3] at A2)
 have hji3w : (IntKind.i64.wrap ((a0.size : Int) - t418)) = ji3:=(i64_w _).trans hji3
 by_cases c4 : 0 ≤ (ji3)
 rotate_left
 ·rw [if_neg c4] at H
  exact absurd H (by simp)
 rw [if_pos c4] at H
 have c4b0:=eq_true c4
 have c4b1:=decide_eq_true c4
 clear c4
 by_cases c5 : (ji3) ≤ (a0.size : Int)
 rotate_left
 ·rw [if_neg c5] at H
  exact absurd H (by simp)
 rw [if_pos c5] at H
 have c5b0:=eq_true c5
 have c5b1:=decide_eq_true c5
 clear c5
 have H':=m_ H
 clear H
 go_enter Tryz.func38,Tryz.ntmps38
 go_wp2_with (first|((with_reducible refine gate_dst (N:=6) rfl ?_);refine Kd.R_lit k51 _ 51 ?hg (N:=6) ?hd (xs:=([] : List (S51))) (inner:=[]) (ok:=fun _=>True) (okp:=fun _=>True) ?hr ?hp (fun _ hk=>hk) trivial (Below.refl _ _) (Nat.le_refl _) (by simp) ?_;(case hd=>rfl);(case hg=>rfl);(case hr=>first|(go_simp;done)|(go_simp;rfl));(case hp=>exact (Reps.none _ _));intro v416 w6 ho7 hb hg_ hnew_;clear hg_ hnew_;(first|rw [← Ny415.out] at ho7|(simp only [Int.reduceToNat] at ho7;rw [← Ny415.out] at ho7));have n0_:=m_ (Kd.R_lower ho7 (l6_ (puL HB.out)));have n1_:=m_ (l5_ (puL HB.out) hb);revert n0_ n1_;clear HB;intro HO417 HB;clear hb ho7)|((with_reducible refine gate_callee (f:=36) rfl ?_);refine goesL_ (some 11) rfl rfl Tryz.func36 (by kernel_rfl) rfl #[.string a0] rfl lens ?_;(with_reducible refine (impl_held.calls k a0 t418 _ A2.out).mono ?_);rintro e w8 ⟨rfl,hb⟩;refine ⟨_,rfl,?_⟩;have n0_:=m_ (Kd.R_below (puR HO417.out) hb);have n1_:=m_ (l5_ (puL HB.out) hb);revert n0_ n1_;clear HO417 HB;intro HO417 HB;(try clear hb);(try clear hb2);(try clear hk);(try clear hi)))
 go_loopg [3,4] k (fun kq v3 v4 w'=>∃ (x3_1 : List (S51)) (x4_1 : ByteArray),v4 = .string x4_1 ∧ Aside0 (impl_pieces.l0 kq x3_1 x4_1 = some r) ∧ Aside0 (kq ≤ k) ∧ Aside0 (Kd.R k51 51 w' w.heap.size (fun _=>True) v3 x3_1) ∧ Aside0 (Below w.heap.size w w'))
 case atStart=>exact ⟨(y415),(a0.extract 0 ((ji3) : Int).toNat),(by first|rfl|(simp;done)|(simp only [← hji3] <;> (first|rfl|simp))|(simp [*];done)),H',⟨Nat.le_refl _⟩,⟨by (with_reducible repeat (first|apply Kd.R_alloc|apply Kd.R_drewN|apply Kd.R_drew));exact HO417.out⟩,⟨puL HB.out⟩⟩
 case round =>
  clear H'
  try clear p2
  try clear c3
  try clear c4
  try clear c4b0
  try clear c4b1
  try clear c5
  try clear c5b0
  try clear c5b1
  try clear p6
  obtain ⟨x3_1,x4_1,rfl,HA,HK1,HO_3,HB⟩:=hrel
  cases gk with
  | zero => exact absurd HA.out (by simp [impl_pieces.l0])
  | succ k1 =>
   have H:=HA.out
   clear HA
   simp only [impl_pieces.l0] at H
   by_cases c9 : x4_1.toList = ([] : List UInt8)
   ·rw [if_pos c9] at H
    have c9b0 : x4_1.toList.isEmpty = true:=by simpa using c9
    have c9b1 : (x4_1.toList == ([] : List UInt8)) = true:=beq_iff_eq.mpr c9
    have c9b2 : (x4_1.toList != ([] : List UInt8)) = false:=bne_eq_false_iff_eq.mpr c9
    clear c9
    replace H:=Option.bind_eq_some_iff.mp H
    obtain ⟨t419,A100,H⟩:=H
    have A10:=m_ A100
    clear A100
    obtain rfl:=Option.some.inj H
    obtain ⟨Ao11,co11,eo11⟩:=Kd.R_slice HO_3.out
    subst eo11
    go_wp2_with (first|((with_reducible refine gate_callee (f:=53) rfl ?_);refine goesL_ (some 27) rfl rfl Tryz.func53 (by kernel_rfl) rfl #[.slice Ao11 x3_1.length co11] rfl lens ?_;(with_reducible refine (slices_Clip_Piece.calls (fun k_=>some k_ = (.slice Ao11 x3_1.length co11 : Value).ownBlock) (.slice Ao11 x3_1.length co11) x3_1 t419 w _ ?side1 ?side2 A10.out).mono ?_);(case side1=>exact puL HB.out);(case side2=>exact Kd.R_tight rfl HO_3.out);rintro e w12 ⟨v420,rfl,ho0,hb,hkp⟩;refine ⟨_,rfl,?_⟩;have n0_:=m_ (Kd.R_mono (ok':=fun k_=>True) ho0 (fun k_ hk_=>trivial));have n1_:=m_ (hb);revert n0_ n1_;clear HB HO_3;intro HO421 HB;(try clear hb);(try clear hkp);(try clear ho0)))
    go_ret
    exact ⟨_,by first|rfl|(simp [e1_,e2_] <;> rfl)|(simp only [← hji3];first|rfl|(simp [e1_,e2_] <;> rfl))|(simp [*,e1_,e2_] <;> rfl)|(simp [e1_,e2_,pk_empty1,pk_empty2];done)|(simp [*,e1_,e2_,pk_empty1,pk_empty2];done),puR HO421.out,puL HB.out⟩
   ·rw [if_neg c9] at H
    have c9b0 : x4_1.toList.isEmpty = false:=by simpa using c9
    have c9b1 : (x4_1.toList == ([] : List UInt8)) = false:=beq_eq_false_iff_ne.mpr c9
    have c9b2 : (x4_1.toList != ([] : List UInt8)) = true:=bne_iff_ne.mpr c9
    replace H:=Option.bind_eq_some_iff.mp H
    obtain ⟨⟨t422,t423,t424,t425⟩,A130,H⟩:=H
    replace H : (if x3_1.length < 4398046511104 then (if 0 ≤ t422 then (if t422 ≤ (x4_1.size : Int) then (impl_pieces.l0 k1 (x3_1 ++ [(⟨t422,t423,(⟨t424,t425⟩ : S49)⟩ : S51)]) (x4_1.extract (t422 : Int).toNat x4_1.size)) else (none)) else (none)) else (none)) = some r:=H
    have A13:=m_ A130
    clear A130
    by_cases c14 : x3_1.length < 4398046511104
    rotate_left
    ·rw [if_neg c14] at H
     exact absurd H (by simp)
    rw [if_pos c14] at H
    have LMc14:=m_ c14
    clear c14
    obtain ⟨y427,hy427⟩ : ∃ y_ : List (S51),y_ = (x3_1 ++ [(⟨t422,t423,(⟨t424,t425⟩ : S49)⟩ : S51)]):=⟨_,rfl⟩
    replace H : (if 0 ≤ t422 then (if t422 ≤ (x4_1.size : Int) then (impl_pieces.l0 k1 y427 (x4_1.extract (t422 : Int).toNat x4_1.size)) else (none)) else (none)) = some r:=by first|(rw [hy427];with_reducible exact H)|(have H2_:=(Option.bind_some _ _).symm.trans H;rw [hy427];with_reducible exact H2_)|(have H2_:=(Option.bind_some _ _).symm.trans H;with_reducible exact H2_)|with_reducible exact H|(rw [hy427];exact H)|exact H
    have Ny427:=m_ hy427
    clear hy427
    by_cases c15 : 0 ≤ t422
    rotate_left
    ·rw [if_neg c15] at H
     exact absurd H (by simp)
    rw [if_pos c15] at H
    have c15b0:=eq_true c15
    have c15b1:=decide_eq_true c15
    clear c15
    by_cases c16 : t422 ≤ (x4_1.size : Int)
    ·rw [if_pos c16] at H
     have c16b0:=eq_true c16
     have c16b1:=decide_eq_true c16
     clear c16
     have H':=m_ H
     clear H
     go_wp2_with (first|((with_reducible refine gate_callee (f:=52) rfl ?_);refine goesL_ (some 17) rfl rfl Tryz.func52 (by kernel_rfl) rfl #[.string x4_1] rfl lens ?_;(with_reducible refine (impl_piece.calls x4_1 t422 t423 t424 t425 _ ?side1 A13.out).mono ?_);(case side1=>first|(with_reducible exact HG.out)|exact GV_below HG.out (puL HB.out));rintro e w17 ⟨rfl,hb⟩;refine ⟨_,rfl,?_⟩;have n0_:=m_ (Kd.R_below (puR HO_3.out) hb);have n1_:=m_ (l5_ (puL HB.out) hb);revert n0_ n1_;clear HO_3 HB;intro HO_3 HB;(try clear hb);(try clear hb2);(try clear hk);(try clear hi))|((with_reducible refine gate_dst (N:=5) rfl ?_);refine box_event ?hg (N:=5) ?hd (cs:=#[.int .i64 0,.bool false,.int .i64 0,.int .i64 0]) (t:=51) ?hr ?_;(case hd=>rfl);(case hg=>rfl);(case hr=>first|(go_simp;done)|(go_simp;rfl));intro gb426 hg w18 hbox hb;have n0_:=m_ (Kd.R_below (Kd.R_elderB (puR HO_3.out) gb426 (Nat.le_of_eq hg.symm)) hb);have n1_:=m_ (l5_ (puL HB.out) hb);have n2_:=m_ (hbox);have n3_:=m_ ((by rw [hg];exact (l6_ (puL HB.out)) : w.heap.size ≤ gb426));have n4_:=m_ ((by rw [hg];exact (l6_ (puL HB.out)) : w.heap.size ≤ gb426));revert n0_ n1_ n2_ n3_ n4_;clear HO_3 HB;intro HO_3 HB BK426 GW426 GE426;clear hb hbox hg;have hcz19_0 : w18.cell? ⟨gb426,0,none⟩ = some (.int .i64 0):=(c_ BK426.out 0).trans rfl;have hcz19_1 : w18.cell? ⟨gb426,1,none⟩ = some (.bool false):=(c_ BK426.out 1).trans rfl;have hcz19_2 : w18.cell? ⟨gb426,2,none⟩ = some (.int .i64 0):=(c_ BK426.out 2).trans rfl;have hcz19_3 : w18.cell? ⟨gb426,3,none⟩ = some (.int .i64 0):=(c_ BK426.out 3).trans rfl;have hfz19_0:=f_ BK426.out 0;have hfz19_1:=f_ BK426.out 1;have hfz19_2:=f_ BK426.out 2;have hfz19_3:=f_ BK426.out 3)|((with_reducible refine gate_builtin (b:=.append) (xs:=#[.tmp 18,.tmp 20]) rfl ?_);at_builtin;refine Kd.R_append k51 (w0:=w) w.heap.size rfl (.tmp 18) (.tmp 20) 37 51 (.agg #[(.int .i64 0),(.bool false),(.int .i64 0),(.int .i64 0)]) 32 rfl Tryz.underlying37 info51 rfl (by decide) (by omega) u3 x3_1 (⟨t422,t423,(⟨t424,t425⟩ : S49)⟩ : S51) [.int .i64 t422,.bool t423,.int .i64 t424,.int .i64 t425] (fun k_=>k_ ≠ gb426) (fun _=>False) rfl (by first|(go_simp;done)|(go_simp;rfl)) ?aP (fun _ hk=>hk.elim) ?aF ?aO ?aB ?aS ?aL ?_;(case aP=>exact k51_mkM _ _ _ (⟨t422,t423,(⟨t424,t425⟩ : S49)⟩ : S51));(case aB=>exact (puM HB.out GE426.out));(case aF=>exact (fun k_ hk=>Kd.freshB (g:=gb426) (o:=.cells #[.int .i64 t422,.bool t423,.int .i64 t424,.int .i64 t425] 51 (0,0)) (by (with_reducible repeat first|apply b1_|apply b2_|apply b3_);refine blk_put (cs:=#[.int .i64 t422,.bool t423,.int .i64 t424,.int .i64 0]) ?_ 3 _ rfl;(with_reducible repeat first|apply b1_|apply b2_|apply b3_);refine blk_put (cs:=#[.int .i64 t422,.bool t423,.int .i64 0,.int .i64 0]) ?_ 2 _ rfl;(with_reducible repeat first|apply b1_|apply b2_|apply b3_);refine blk_put (cs:=#[.int .i64 t422,.bool false,.int .i64 0,.int .i64 0]) ?_ 1 _ rfl;(with_reducible repeat first|apply b1_|apply b2_|apply b3_);refine blk_put (cs:=#[.int .i64 0,.bool false,.int .i64 0,.int .i64 0]) ?_ 0 _ rfl;(with_reducible repeat first|apply b1_|apply b2_|apply b3_);exact BK426.out) k_ hk));(case aO=>exact (by (with_reducible repeat (first|apply Kd.R_alloc|apply Kd.R_drewN|apply Kd.R_drew));exact Kd.R_mono (Kd.R_far (p:=⟨gb426,3,none⟩) (Kd.R_far (p:=⟨gb426,2,none⟩) (Kd.R_far (p:=⟨gb426,1,none⟩) (Kd.R_far (p:=⟨gb426,0,none⟩) (Kd.R_mono HO_3.out (fun k_ hk=>(⟨hk,hk.2⟩ : _ ∧ k_ ≠ gb426))) (fun _ hk=>hk.2) (.int .i64 t422)) (fun _ hk=>hk.2) (.bool t423)) (fun _ hk=>hk.2) (.int .i64 t424)) (fun _ hk=>hk.2) (.int .i64 t425)) (fun _ hk=>hk.1.2)));(case aS=>exact (l6_ (puM HB.out GE426.out)));(case aL=>have:=LMc14.out;omega);intro v428 w20 ho hb hg hat;rw [← Ny427.out] at ho;have n0_:=m_ (blk_grown (g:=gb426) (o:=.cells #[.int .i64 t422,.bool t423,.int .i64 t424,.int .i64 t425] 51 (0,0)) (by (with_reducible repeat first|apply b1_|apply b2_|apply b3_);refine blk_put (cs:=#[.int .i64 t422,.bool t423,.int .i64 t424,.int .i64 0]) ?_ 3 _ rfl;(with_reducible repeat first|apply b1_|apply b2_|apply b3_);refine blk_put (cs:=#[.int .i64 t422,.bool t423,.int .i64 0,.int .i64 0]) ?_ 2 _ rfl;(with_reducible repeat first|apply b1_|apply b2_|apply b3_);refine blk_put (cs:=#[.int .i64 t422,.bool false,.int .i64 0,.int .i64 0]) ?_ 1 _ rfl;(with_reducible repeat first|apply b1_|apply b2_|apply b3_);refine blk_put (cs:=#[.int .i64 0,.bool false,.int .i64 0,.int .i64 0]) ?_ 0 _ rfl;(with_reducible repeat first|apply b1_|apply b2_|apply b3_);exact BK426.out) hg (Kd.R_away HO_3.out (fun _ hk=>hk.2)));have n1_:=m_ (hb);have n2_:=m_ (ho);revert n0_ n1_ n2_;clear BK426 HB HO_3;intro BK426 HB HO429;clear ho hb hg hat;have hcz21_0 : w20.cell? ⟨gb426,0,none⟩ = some (.int .i64 t422):=(c_ BK426.out 0).trans rfl;have hcz21_1 : w20.cell? ⟨gb426,1,none⟩ = some (.bool t423):=(c_ BK426.out 1).trans rfl;have hcz21_2 : w20.cell? ⟨gb426,2,none⟩ = some (.int .i64 t424):=(c_ BK426.out 2).trans rfl;have hcz21_3 : w20.cell? ⟨gb426,3,none⟩ = some (.int .i64 t425):=(c_ BK426.out 3).trans rfl;have hfz21_0:=f_ BK426.out 0;have hfz21_1:=f_ BK426.out 1;have hfz21_2:=f_ BK426.out 2;have hfz21_3:=f_ BK426.out 3))
     go_roundg k1
     case measure=>have:=HK1.out;omega
     case rel=>exact ⟨(y427),(x4_1.extract (t422 : Int).toNat x4_1.size),(by first|rfl|(simp;done)|(simp [*];done)),H',⟨by have:=HK1.out;omega⟩,⟨by (with_reducible repeat (first|apply Kd.R_alloc|apply Kd.R_drewN|apply Kd.R_drew));exact Kd.R_mono HO429.out (fun _ hk=>trivial)⟩,⟨puM HB.out GE426.out⟩⟩
    ·rw [if_neg c16] at H
     exact absurd H (by simp)

/-! ### impl_StreamOk_1: function 40 -/
def impl_StreamOk_1.f (a0_0 : Int) (a0_1 : ByteArray) (a1_0 : Int) (a1_1 : Bool) (a1_2 : Int) (a1_3 : Int) : Option (Bool) := if a0_0 = a1_0 then ((impl_within.f (a0_1.size : Int) 1 6).bind fun t432 => (if t432 = true then ((impl_TextOk.f a0_1).bind fun t433 => (some t433)) else (some false))) else (some false)
theorem impl_StreamOk_1.calls (a0_0 : Int) (a0_1 : ByteArray) (a1_0 : Int) (a1_1 : Bool) (a1_2 : Int) (a1_3 : Int) (r : Bool) (w : World) (h : impl_StreamOk_1.f a0_0 a0_1 a1_0 a1_1 a1_2 a1_3 = some r) :
  Calls Tryz.prog 40 #[.agg #[.int .i64 a0_0,.string a0_1],.agg #[.int .i64 a1_0,.bool a1_1,.int .i64 a1_2,.int .i64 a1_3]] w fun e w'=>e = .returned (.bool r) ∧ Below w.heap.size w w':=by
 have hu31:=Tryz.underlying31
 have hu51:=Tryz.underlying51
 have HB:=m_ (Below.refl w.heap.size w)
 have H : (if a0_0 = a1_0 then ((impl_within.f (a0_1.size : Int) 1 6).bind fun t432=>(if t432 = true then ((impl_TextOk.f a0_1).bind fun t433=>(some t433)) else (some false))) else (some false)) = some r:=h
 clear h
 by_cases c3 : a0_0 = a1_0
 ·rw [if_pos c3] at H
  have c3b0 : (a0_0 == a1_0) = true:=beq_iff_eq.mpr c3
  have c3b1 : (a0_0 != a1_0) = false:=bne_eq_false_iff_eq.mpr c3
  clear c3
  replace H:=Option.bind_eq_some_iff.mp H
  obtain ⟨t432,A40,H⟩:=H
  have A4:=m_ A40
  clear A40
  by_cases c5 : t432 = true
  ·subst c5
   replace H:=ifp H rfl
   replace H:=Option.bind_eq_some_iff.mp H
   obtain ⟨t433,A60,H⟩:=H
   have A6:=m_ A60
   clear A60
   obtain rfl:=Option.some.inj H
   go_enter Tryz.func40,Tryz.ntmps40
   go_wp2_with (first|((with_reducible refine gate_dst (N:=2) rfl ?_);(try (refine gate_guard (by rfl) ?_;dsimp only));refine box_event ?hg (N:=2) ?hd (cs:=#[.int .i64 a0_0,.string a0_1]) (t:=31) ?hr ?_;(case hd=>rfl);(case hg=>rfl);(case hr=>first|(go_simp;done)|(go_simp;rfl));intro gb430 hg w7 hbox hb;have n0_:=m_ (l5_ (puL HB.out) hb);have n1_:=m_ (hbox);have n2_:=m_ ((by rw [hg];exact (l6_ (puL HB.out)) : w.heap.size ≤ gb430));have n3_:=m_ ((by rw [hg];exact (l6_ (puL HB.out)) : w.heap.size ≤ gb430));revert n0_ n1_ n2_ n3_;clear HB;intro HB BK430 GW430 GE430;clear hb hbox hg)|((with_reducible refine gate_dst (N:=3) rfl ?_);(try (refine gate_guard (by rfl) ?_;dsimp only));refine box_event ?hg (N:=3) ?hd (cs:=#[.int .i64 a1_0,.bool a1_1,.int .i64 a1_2,.int .i64 a1_3]) (t:=51) ?hr ?_;(case hd=>rfl);(case hg=>rfl);(case hr=>first|(go_simp;done)|(go_simp;rfl));intro gb431 hg w8 hbox hb;have n0_:=m_ (blk_below (g:=gb430) (o:=.cells #[.int .i64 a0_0,.string a0_1] 31 (0,0)) (puB BK430.out) hb);have n1_:=m_ (l5_ (puM HB.out GE430.out) hb);have n2_:=m_ (hbox);have n3_:=m_ ((by rw [hg];exact (l6_ (puM HB.out GE430.out)) : w.heap.size ≤ gb431));have n4_:=n3_;have n5_:=m_ ((by rw [hg];exact Nat.ne_of_lt (blk_lt (g:=gb430) (o:=.cells #[.int .i64 a0_0,.string a0_1] 31 (0,0)) (puB BK430.out)) : gb430 ≠ gb431));have n6_:=m_ ((by rw [hg];exact Nat.ne_of_gt (blk_lt (g:=gb430) (o:=.cells #[.int .i64 a0_0,.string a0_1] 31 (0,0)) (puB BK430.out)) : gb431 ≠ gb430));revert n0_ n1_ n2_ n3_ n4_ n5_ n6_;clear BK430 HB;intro BK430 HB BK431 GW431 GE431 NB430_431 NB431_430;clear hb hbox hg;have hnb9:=NB430_431.out;have hnc9:=NB431_430.out;have hcz10_0 : w8.cell? ⟨gb430,0,none⟩ = some (.int .i64 a0_0):=(c_ BK430.out 0).trans rfl;have hcz10_1 : w8.cell? ⟨gb430,1,none⟩ = some (.string a0_1):=(c_ BK430.out 1).trans rfl;have hcz11_0 : w8.cell? ⟨gb431,0,none⟩ = some (.int .i64 a1_0):=(c_ BK431.out 0).trans rfl;have hcz11_1 : w8.cell? ⟨gb431,1,none⟩ = some (.bool a1_1):=(c_ BK431.out 1).trans rfl;have hcz11_2 : w8.cell? ⟨gb431,2,none⟩ = some (.int .i64 a1_2):=(c_ BK431.out 2).trans rfl;have hcz11_3 : w8.cell? ⟨gb431,3,none⟩ = some (.int .i64 a1_3):=(c_ BK431.out 3).trans rfl)|(go_at_call 25;(with_reducible refine (impl_within.calls (a0_1.size : Int) 1 6 true _ A4.out).mono ?_);rintro e w' ⟨rfl,⟨nd,rfl⟩⟩)|(go_at_call 35;(with_reducible refine (impl_TextOk.calls a0_1 t433 _ A6.out).mono ?_);rintro e w12 ⟨rfl,hb⟩;have n0_:=m_ (blk_below (g:=gb430) (o:=.cells #[.int .i64 a0_0,.string a0_1] 31 (0,0)) (puB BK430.out) hb);have n1_:=m_ (blk_below (g:=gb431) (o:=.cells #[.int .i64 a1_0,.bool a1_1,.int .i64 a1_2,.int .i64 a1_3] 51 (0,0)) (puB BK431.out) hb);have n2_:=m_ (l5_ (puN HB.out GE430.out GE431.out) hb);revert n0_ n1_ n2_;clear BK430 BK431 HB;intro BK430 BK431 HB;(try clear hb);(try clear hb2);(try clear hk);(try clear hi)))
   go_ret
   exact ⟨eqs,puN HB.out GE430.out GE431.out⟩
  ·replace c5:=Bool.eq_false_iff.mpr c5
   subst c5
   replace H:=ifn H
   obtain rfl:=Option.some.inj H
   go_enter Tryz.func40,Tryz.ntmps40
   go_wp2_with (first|((with_reducible refine gate_dst (N:=2) rfl ?_);(try (refine gate_guard (by rfl) ?_;dsimp only));refine box_event ?hg (N:=2) ?hd (cs:=#[.int .i64 a0_0,.string a0_1]) (t:=31) ?hr ?_;(case hd=>rfl);(case hg=>rfl);(case hr=>first|(go_simp;done)|(go_simp;rfl));intro gb430 hg w13 hbox hb;have n0_:=m_ (l5_ (puL HB.out) hb);have n1_:=m_ (hbox);have n2_:=m_ ((by rw [hg];exact (l6_ (puL HB.out)) : w.heap.size ≤ gb430));have n3_:=m_ ((by rw [hg];exact (l6_ (puL HB.out)) : w.heap.size ≤ gb430));revert n0_ n1_ n2_ n3_;clear HB;intro HB BK430 GW430 GE430;clear hb hbox hg)|((with_reducible refine gate_dst (N:=3) rfl ?_);(try (refine gate_guard (by rfl) ?_;dsimp only));refine box_event ?hg (N:=3) ?hd (cs:=#[.int .i64 a1_0,.bool a1_1,.int .i64 a1_2,.int .i64 a1_3]) (t:=51) ?hr ?_;(case hd=>rfl);(case hg=>rfl);(case hr=>first|(go_simp;done)|(go_simp;rfl));intro gb431 hg w14 hbox hb;have n0_:=m_ (blk_below (g:=gb430) (o:=.cells #[.int .i64 a0_0,.string a0_1] 31 (0,0)) (puB BK430.out) hb);have n1_:=m_ (l5_ (puM HB.out GE430.out) hb);have n2_:=m_ (hbox);have n3_:=m_ ((by rw [hg];exact (l6_ (puM HB.out GE430.out)) : w.heap.size ≤ gb431));have n4_:=n3_;have n5_:=m_ ((by rw [hg];exact Nat.ne_of_lt (blk_lt (g:=gb430) (o:=.cells #[.int .i64 a0_0,.string a0_1] 31 (0,0)) (puB BK430.out)) : gb430 ≠ gb431));have n6_:=m_ ((by rw [hg];exact Nat.ne_of_gt (blk_lt (g:=gb430) (o:=.cells #[.int .i64 a0_0,.string a0_1] 31 (0,0)) (puB BK430.out)) : gb431 ≠ gb430));revert n0_ n1_ n2_ n3_ n4_ n5_ n6_;clear BK430 HB;intro BK430 HB BK431 GW431 GE431 NB430_431 NB431_430;clear hb hbox hg;have hnb15:=NB430_431.out;have hnc15:=NB431_430.out;have hcz16_0 : w14.cell? ⟨gb430,0,none⟩ = some (.int .i64 a0_0):=(c_ BK430.out 0).trans rfl;have hcz16_1 : w14.cell? ⟨gb430,1,none⟩ = some (.string a0_1):=(c_ BK430.out 1).trans rfl;have hcz17_0 : w14.cell? ⟨gb431,0,none⟩ = some (.int .i64 a1_0):=(c_ BK431.out 0).trans rfl;have hcz17_1 : w14.cell? ⟨gb431,1,none⟩ = some (.bool a1_1):=(c_ BK431.out 1).trans rfl;have hcz17_2 : w14.cell? ⟨gb431,2,none⟩ = some (.int .i64 a1_2):=(c_ BK431.out 2).trans rfl;have hcz17_3 : w14.cell? ⟨gb431,3,none⟩ = some (.int .i64 a1_3):=(c_ BK431.out 3).trans rfl)|(go_at_call 25;(with_reducible refine (impl_within.calls (a0_1.size : Int) 1 6 false _ A4.out).mono ?_);rintro e w' ⟨rfl,⟨nd,rfl⟩⟩))
   go_ret
   exact ⟨eqs,puN HB.out GE430.out GE431.out⟩
 ·rw [if_neg c3] at H
  have c3b0 : (a0_0 == a1_0) = false:=beq_eq_false_iff_ne.mpr c3
  have c3b1 : (a0_0 != a1_0) = true:=bne_iff_ne.mpr c3
  obtain rfl:=Option.some.inj H
  go_enter Tryz.func40,Tryz.ntmps40
  go_wp2_with (first|((with_reducible refine gate_dst (N:=2) rfl ?_);(try (refine gate_guard (by rfl) ?_;dsimp only));refine box_event ?hg (N:=2) ?hd (cs:=#[.int .i64 a0_0,.string a0_1]) (t:=31) ?hr ?_;(case hd=>rfl);(case hg=>rfl);(case hr=>first|(go_simp;done)|(go_simp;rfl));intro gb430 hg w18 hbox hb;have n0_:=m_ (l5_ (puL HB.out) hb);have n1_:=m_ (hbox);have n2_:=m_ ((by rw [hg];exact (l6_ (puL HB.out)) : w.heap.size ≤ gb430));have n3_:=m_ ((by rw [hg];exact (l6_ (puL HB.out)) : w.heap.size ≤ gb430));revert n0_ n1_ n2_ n3_;clear HB;intro HB BK430 GW430 GE430;clear hb hbox hg)|((with_reducible refine gate_dst (N:=3) rfl ?_);(try (refine gate_guard (by rfl) ?_;dsimp only));refine box_event ?hg (N:=3) ?hd (cs:=#[.int .i64 a1_0,.bool a1_1,.int .i64 a1_2,.int .i64 a1_3]) (t:=51) ?hr ?_;(case hd=>rfl);(case hg=>rfl);(case hr=>first|(go_simp;done)|(go_simp;rfl));intro gb431 hg w19 hbox hb;have n0_:=m_ (blk_below (g:=gb430) (o:=.cells #[.int .i64 a0_0,.string a0_1] 31 (0,0)) (puB BK430.out) hb);have n1_:=m_ (l5_ (puM HB.out GE430.out) hb);have n2_:=m_ (hbox);have n3_:=m_ ((by rw [hg];exact (l6_ (puM HB.out GE430.out)) : w.heap.size ≤ gb431));have n4_:=n3_;have n5_:=m_ ((by rw [hg];exact Nat.ne_of_lt (blk_lt (g:=gb430) (o:=.cells #[.int .i64 a0_0,.string a0_1] 31 (0,0)) (puB BK430.out)) : gb430 ≠ gb431));have n6_:=m_ n5_.out.symm;revert n0_ n1_ n2_ n3_ n4_ n5_ n6_;clear BK430 HB;intro BK430 HB BK431 GW431 GE431 NB430_431 NB431_430;clear hb hbox hg;have hnb20:=NB430_431.out;have hnc20:=NB431_430.out;have hcz21_0 : w19.cell? ⟨gb430,0,none⟩ = some (.int .i64 a0_0):=(c_ BK430.out 0).trans rfl;have hcz21_1 : w19.cell? ⟨gb430,1,none⟩ = some (.string a0_1):=(c_ BK430.out 1).trans rfl;have hcz22_0 : w19.cell? ⟨gb431,0,none⟩ = some (.int .i64 a1_0):=(c_ BK431.out 0).trans rfl;have hcz22_1 : w19.cell? ⟨gb431,1,none⟩ = some (.bool a1_1):=(c_ BK431.out 1).trans rfl;have hcz22_2 : w19.cell? ⟨gb431,2,none⟩ = some (.int .i64 a1_2):=(c_ BK431.out 2).trans rfl;have hcz22_3 : w19.cell? ⟨gb431,3,none⟩ = some (.int .i64 a1_3):=(c_ BK431.out 3).trans rfl))
  go_ret
  exact ⟨eqs,puN HB.out GE430.out GE431.out⟩

/-! ### slices_EqualFunc_Piece: function 39 -/
def slices_EqualFunc_Piece.l0 : Nat → List (S51) → List (S31) → Int → Int → Option (Bool)
 | 0, _, _, _, _ => none
 | k + 1, x1, x15, x16, x17 => if x17 < x16 then (if 0 ≤ x17 then (if x17 < (x15.length : Int) then (if x17 < (x1.length : Int) then ((impl_StreamOk_1.f ((rd_T31 x15 x17).f0) ((rd_T31 x15 x17).f1) ((rd_T51 x1 x17).f0) ((rd_T51 x1 x17).f1) ((rd_T51 x1 x17).f2.f0) ((rd_T51 x1 x17).f2.f1)).bind fun t438 => (if t438 = true then (slices_EqualFunc_Piece.l0 k x1 x15 x16 (wrap64 (x17 + 1))) else (some false))) else (none)) else (none)) else (none)) else (some true)
def slices_EqualFunc_Piece.f (k : Nat) (l0 : List (S31)) (l1 : List (S51)) : Option (Bool) := if (l0.length : Int) = (l1.length : Int) then (slices_EqualFunc_Piece.l0 k l1 l0 (l0.length : Int) 0) else (some false)
theorem slices_EqualFunc_Piece.mono_l : ∀ k, (∀ y0 y1 y2 y3, LeO (slices_EqualFunc_Piece.l0 k y0 y1 y2 y3) (slices_EqualFunc_Piece.l0 (k + 1) y0 y1 y2 y3))
 | 0 => fun _ _ _ _ r h => by simp [slices_EqualFunc_Piece.l0] at h
 | k + 1 => by
  have ih0:=slices_EqualFunc_Piece.mono_l k
  ·intro y0 y1 y2 y3
   unfold slices_EqualFunc_Piece.l0
   exact leo1 ih0
theorem slices_EqualFunc_Piece.mono : ∀ a0 a1 k, LeO (slices_EqualFunc_Piece.f k a0 a1) (slices_EqualFunc_Piece.f (k + 1) a0 a1) := by
 intro a0 a1 k
 have ih0:=slices_EqualFunc_Piece.mono_l k
 unfold slices_EqualFunc_Piece.f
 exact leo1 ih0
theorem slices_EqualFunc_Piece.calls (k : Nat) (A0 : Option Addr) (c0 : Nat) (l0 : List (S31)) (A1 : Option Addr) (c1 : Nat) (l1 : List (S51)) (r : Bool) (w : World) (hr0 : Kd.C k31 w A0 l0.length l0) (hc0 : l0.length ≤ c0) (hr1 : Kd.C k51 w A1 l1.length l1) (hc1 : l1.length ≤ c1) (h : slices_EqualFunc_Piece.f k l0 l1 = some r) :
  Calls Tryz.prog 39 #[.slice A0 l0.length c0,.slice A1 l1.length c1,.func (.func 40) #[] #[]] w fun e w'=>e = .returned (.bool r) ∧ Below w.heap.size w w':=by
 have hu31:=Tryz.underlying31
 have hu51:=Tryz.underlying51
 have HR0:=m_ hr0
 have HC0:=m_ hc0
 clear hr0 hc0
 have HR1:=m_ hr1
 have HC1:=m_ hc1
 clear hr1 hc1
 have HB:=m_ (Below.refl w.heap.size w)
 have H : (if (l0.length : Int) = (l1.length : Int) then (slices_EqualFunc_Piece.l0 k l1 l0 (l0.length : Int) 0) else (some false)) = some r:=h
 clear h
 by_cases c3 : (l0.length : Int) = (l1.length : Int)
 ·rw [if_pos c3] at H
  have c3b0 : ((l0.length : Int) == (l1.length : Int)) = true:=beq_iff_eq.mpr c3
  have c3b1 : ((l0.length : Int) != (l1.length : Int)) = false:=bne_eq_false_iff_eq.mpr c3
  have c3b2 : (l0.length == l1.length) = true:=by first|simpa using c3|(simp at c3 ⊢;omega)
  clear c3
  have H':=m_ H
  clear H
  go_enter Tryz.func39,Tryz.ntmps39
  go_wp2
  go_loopg [17] k (fun kq v17 w'=>∃ (x17_1 : Int),v17 = .int .i64 x17_1 ∧ Aside0 (slices_EqualFunc_Piece.l0 kq l1 l0 (l0.length : Int) x17_1 = some r) ∧ Aside0 (kq ≤ k) ∧ Aside0 (Below w.heap.size w w'))
  case atStart=>exact ⟨(0),(by first|rfl|(simp;done)|(simp [*];done)),H',⟨Nat.le_refl _⟩,⟨puL HB.out⟩⟩
  case round =>
   clear H'
   try clear c1
   try clear p2
   try clear c3
   try clear c3b0
   try clear c3b1
   try clear c3b2
   obtain ⟨x17_1,rfl,HA,HK1,HB⟩:=hrel
   cases gk with
   | zero => exact absurd HA.out (by simp [slices_EqualFunc_Piece.l0])
   | succ k1 =>
    have H:=HA.out
    clear HA
    simp only [slices_EqualFunc_Piece.l0] at H
    by_cases c4 : x17_1 < (l0.length : Int)
    ·rw [if_pos c4] at H
     have c4b0 : decide (x17_1 < (l0.length : Int)) = true:=decide_eq_true c4
     clear c4
     by_cases c5 : 0 ≤ x17_1
     rotate_left
     ·rw [if_neg c5] at H
      exact absurd H (by simp)
     rw [if_pos c5] at H
     have c5b0 : decide (0 ≤ x17_1) = true:=decide_eq_true c5
     clear c5
     by_cases c6 : x17_1 < (l0.length : Int)
     rotate_left
     ·rw [if_neg c6] at H
      exact absurd H (by simp)
     rw [if_pos c6] at H
     have c6b0 : decide (x17_1 < (l0.length : Int)) = true:=decide_eq_true c6
     clear c6
     by_cases c7 : x17_1 < (l1.length : Int)
     rotate_left
     ·rw [if_neg c7] at H
      exact absurd H (by simp)
     rw [if_pos c7] at H
     have c7b0 : decide (x17_1 < (l1.length : Int)) = true:=decide_eq_true c7
     clear c7
     replace H:=Option.bind_eq_some_iff.mp H
     obtain ⟨t438,A80,H⟩:=H
     have A8:=m_ A80
     clear A80
     by_cases c9 : t438 = true
     ·subst c9
      replace H:=ifp H rfl
      have H':=m_ H
      clear H
      have p434 : 0 ≤ (x17_1 : Int):=of_decide_eq_true asm
      have q434 : x17_1 < (l0.length : Int):=of_decide_eq_true asm
      obtain ⟨ad434,e434,hx434_0,hx434_1⟩:=at_T31 HR0.out x17_1 p434 q434
      cases e434
      replace hx434_0:=(HB.out.cell (World.block_lt_of_cell? w _ hx434_0)).trans hx434_0
      replace hx434_1:=(HB.out.cell (World.block_lt_of_cell? w _ hx434_1)).trans hx434_1
      replace p434:=eq_true p434
      replace q434:=eq_true q434
      go_wp2_with (first|((with_reducible refine gate_dst (N:=8) rfl ?_);refine box_event ?hg (N:=8) ?hd (cs:=#[.int .i64 0,.string (⟨#[]⟩ : ByteArray)]) (t:=31) ?hr ?_;(case hd=>rfl);(case hg=>rfl);(case hr=>first|(go_simp;done)|(go_simp;rfl));intro gb435 hg w10 hbox hb;have n0_:=m_ (l5_ (puL HB.out) hb);have n1_:=m_ (hbox);have n2_:=m_ ((by rw [hg];exact (l6_ (puL HB.out)) : w.heap.size ≤ gb435));have n3_:=m_ ((by rw [hg];exact (l6_ (puL HB.out)) : w.heap.size ≤ gb435));revert n0_ n1_ n2_ n3_;clear HB;intro HB BK435 GW435 GE435;clear hb hbox hg;have hcz11_0 : w10.cell? ⟨gb435,0,none⟩ = some (.int .i64 0):=(c_ BK435.out 0).trans rfl;have hcz11_1 : w10.cell? ⟨gb435,1,none⟩ = some (.string (⟨#[]⟩ : ByteArray)):=(c_ BK435.out 1).trans rfl;have hfz11_0:=f_ BK435.out 0;have hfz11_1:=f_ BK435.out 1;have p436 : 0 ≤ (x17_1 : Int):=of_decide_eq_true asm;have q436 : x17_1 < (l1.length : Int):=of_decide_eq_true asm;obtain ⟨ad436,e436,hx436_0,hx436_1,hx436_2,hx436_3⟩:=at_T51 HR1.out x17_1 p436 q436;cases e436;have hn436_0 : ad436.block ≠ gb435:=Nat.ne_of_lt (Nat.lt_of_lt_of_le (by have:=World.block_lt_of_cell? _ _ hx436_0;first|rwa [add_block] at this|exact this) GW435.out);have hn436_1 : ad436.block ≠ gb435:=Nat.ne_of_lt (Nat.lt_of_lt_of_le (by have:=World.block_lt_of_cell? _ _ hx436_0;first|rwa [add_block] at this|exact this) GW435.out);replace hx436_0:=(HB.out.cell (World.block_lt_of_cell? w _ hx436_0)).trans hx436_0;replace hx436_1:=(HB.out.cell (World.block_lt_of_cell? w _ hx436_1)).trans hx436_1;replace hx436_2:=(HB.out.cell (World.block_lt_of_cell? w _ hx436_2)).trans hx436_2;replace hx436_3:=(HB.out.cell (World.block_lt_of_cell? w _ hx436_3)).trans hx436_3;replace hx436_0:=(cell_far (p:=⟨gb435,0,none⟩) (by first|(rw [add_block];exact hn436_0)|(show (Addr.add _ _).block ≠ _;rw [add_block];exact hn436_0)|exact hn436_0) (.int .i64 ((rd_T31 l0 x17_1).f0))).trans hx436_0;replace hx436_1:=(cell_far (p:=⟨gb435,0,none⟩) (by first|(rw [add_block];exact hn436_0)|(show (Addr.add _ _).block ≠ _;rw [add_block];exact hn436_0)|exact hn436_0) (.int .i64 ((rd_T31 l0 x17_1).f0))).trans hx436_1;replace hx436_2:=(cell_far (p:=⟨gb435,0,none⟩) (by first|(rw [add_block];exact hn436_0)|(show (Addr.add _ _).block ≠ _;rw [add_block];exact hn436_0)|exact hn436_0) (.int .i64 ((rd_T31 l0 x17_1).f0))).trans hx436_2;replace hx436_3:=(cell_far (p:=⟨gb435,0,none⟩) (by first|(rw [add_block];exact hn436_0)|(show (Addr.add _ _).block ≠ _;rw [add_block];exact hn436_0)|exact hn436_0) (.int .i64 ((rd_T31 l0 x17_1).f0))).trans hx436_3;replace hx436_0:=(cell_far (p:=⟨gb435,1,none⟩) (by first|(rw [add_block];exact hn436_1)|(show (Addr.add _ _).block ≠ _;rw [add_block];exact hn436_1)|exact hn436_1) (.string ((rd_T31 l0 x17_1).f1))).trans hx436_0;replace hx436_1:=(cell_far (p:=⟨gb435,1,none⟩) (by first|(rw [add_block];exact hn436_1)|(show (Addr.add _ _).block ≠ _;rw [add_block];exact hn436_1)|exact hn436_1) (.string ((rd_T31 l0 x17_1).f1))).trans hx436_1;replace hx436_2:=(cell_far (p:=⟨gb435,1,none⟩) (by first|(rw [add_block];exact hn436_1)|(show (Addr.add _ _).block ≠ _;rw [add_block];exact hn436_1)|exact hn436_1) (.string ((rd_T31 l0 x17_1).f1))).trans hx436_2;replace hx436_3:=(cell_far (p:=⟨gb435,1,none⟩) (by first|(rw [add_block];exact hn436_1)|(show (Addr.add _ _).block ≠ _;rw [add_block];exact hn436_1)|exact hn436_1) (.string ((rd_T31 l0 x17_1).f1))).trans hx436_3;clear hn436_0;clear hn436_1;replace p436:=eq_true p436;replace q436:=eq_true q436)|((with_reducible refine gate_dst (N:=9) rfl ?_);refine box_event ?hg (N:=9) ?hd (cs:=#[.int .i64 0,.bool false,.int .i64 0,.int .i64 0]) (t:=51) ?hr ?_;(case hd=>rfl);(case hg=>rfl);(case hr=>first|(go_simp;done)|(go_simp;rfl));intro gb437 hg w12 hbox hb;have n0_:=m_ (blk_below (g:=gb435) (o:=.cells #[.int .i64 ((rd_T31 l0 x17_1).f0),.string ((rd_T31 l0 x17_1).f1)] 31 (0,0)) (by (with_reducible repeat first|apply b1_|apply b2_|apply b3_);refine blk_put (cs:=#[.int .i64 ((rd_T31 l0 x17_1).f0),.string (⟨#[]⟩ : ByteArray)]) ?_ 1 _ rfl;(with_reducible repeat first|apply b1_|apply b2_|apply b3_);refine blk_put (cs:=#[.int .i64 0,.string (⟨#[]⟩ : ByteArray)]) ?_ 0 _ rfl;(with_reducible repeat first|apply b1_|apply b2_|apply b3_);exact BK435.out) hb);have n1_:=m_ (l5_ (puM HB.out GE435.out) hb);have n2_:=m_ (hbox);have n3_:=m_ ((by rw [hg];exact (l6_ (puM HB.out GE435.out)) : w.heap.size ≤ gb437));have n4_:=n3_;have n5_:=m_ ((by rw [hg];exact Nat.ne_of_lt (blk_lt (g:=gb435) (o:=.cells #[.int .i64 ((rd_T31 l0 x17_1).f0),.string ((rd_T31 l0 x17_1).f1)] 31 (0,0)) (by (with_reducible repeat first|apply b1_|apply b2_|apply b3_);refine blk_put (cs:=#[.int .i64 ((rd_T31 l0 x17_1).f0),.string (⟨#[]⟩ : ByteArray)]) ?_ 1 _ rfl;(with_reducible repeat first|apply b1_|apply b2_|apply b3_);refine blk_put (cs:=#[.int .i64 0,.string (⟨#[]⟩ : ByteArray)]) ?_ 0 _ rfl;(with_reducible repeat first|apply b1_|apply b2_|apply b3_);exact BK435.out)) : gb435 ≠ gb437));have n6_:=m_ ((by rw [hg];exact Nat.ne_of_gt (blk_lt (g:=gb435) (o:=.cells #[.int .i64 ((rd_T31 l0 x17_1).f0),.string ((rd_T31 l0 x17_1).f1)] 31 (0,0)) (by (with_reducible repeat first|apply b1_|apply b2_|apply b3_);refine blk_put (cs:=#[.int .i64 ((rd_T31 l0 x17_1).f0),.string (⟨#[]⟩ : ByteArray)]) ?_ 1 _ rfl;(with_reducible repeat first|apply b1_|apply b2_|apply b3_);refine blk_put (cs:=#[.int .i64 0,.string (⟨#[]⟩ : ByteArray)]) ?_ 0 _ rfl;(with_reducible repeat first|apply b1_|apply b2_|apply b3_);exact BK435.out)) : gb437 ≠ gb435));revert n0_ n1_ n2_ n3_ n4_ n5_ n6_;clear BK435 HB;intro BK435 HB BK437 GW437 GE437 NB435_437 NB437_435;clear hb hbox hg;have hnb13:=NB437_435.out;have hnc13:=NB435_437.out;have hcz14_0 : w12.cell? ⟨gb437,0,none⟩ = some (.int .i64 0):=(c_ BK437.out 0).trans rfl;have hcz14_1 : w12.cell? ⟨gb437,1,none⟩ = some (.bool false):=(c_ BK437.out 1).trans rfl;have hcz14_2 : w12.cell? ⟨gb437,2,none⟩ = some (.int .i64 0):=(c_ BK437.out 2).trans rfl;have hcz14_3 : w12.cell? ⟨gb437,3,none⟩ = some (.int .i64 0):=(c_ BK437.out 3).trans rfl;have hfz14_0:=f_ BK437.out 0;have hfz14_1:=f_ BK437.out 1;have hfz14_2:=f_ BK437.out 2;have hfz14_3:=f_ BK437.out 3;have hcz15_0 : w12.cell? ⟨gb435,0,none⟩ = some (.int .i64 ((rd_T31 l0 x17_1).f0)):=(c_ BK435.out 0).trans rfl;have hcz15_1 : w12.cell? ⟨gb435,1,none⟩ = some (.string ((rd_T31 l0 x17_1).f1)):=(c_ BK435.out 1).trans rfl;have hfz15_0:=f_ BK435.out 0;have hfz15_1:=f_ BK435.out 1)|(go_at_call 40;(with_reducible refine (impl_StreamOk_1.calls ((rd_T31 l0 x17_1).f0) ((rd_T31 l0 x17_1).f1) ((rd_T51 l1 x17_1).f0) ((rd_T51 l1 x17_1).f1) ((rd_T51 l1 x17_1).f2.f0) ((rd_T51 l1 x17_1).f2.f1) true _ A8.out).mono ?_);rintro e w16 ⟨rfl,hb⟩;have n0_:=m_ (blk_below (g:=gb435) (o:=.cells #[.int .i64 ((rd_T31 l0 x17_1).f0),.string ((rd_T31 l0 x17_1).f1)] 31 (0,0)) (by (with_reducible repeat first|apply b1_|apply b2_|apply b3_);refine b4_ ?_ NB435_437.out _;(with_reducible repeat first|apply b1_|apply b2_|apply b3_);refine b4_ ?_ NB435_437.out _;(with_reducible repeat first|apply b1_|apply b2_|apply b3_);refine b4_ ?_ NB435_437.out _;(with_reducible repeat first|apply b1_|apply b2_|apply b3_);refine b4_ ?_ NB435_437.out _;(with_reducible repeat first|apply b1_|apply b2_|apply b3_);exact BK435.out) hb);have n1_:=m_ (blk_below (g:=gb437) (o:=.cells #[.int .i64 ((rd_T51 l1 x17_1).f0),.bool ((rd_T51 l1 x17_1).f1),.int .i64 ((rd_T51 l1 x17_1).f2.f0),.int .i64 ((rd_T51 l1 x17_1).f2.f1)] 51 (0,0)) (by (with_reducible repeat first|apply b1_|apply b2_|apply b3_);refine blk_put (cs:=#[.int .i64 ((rd_T51 l1 x17_1).f0),.bool ((rd_T51 l1 x17_1).f1),.int .i64 ((rd_T51 l1 x17_1).f2.f0),.int .i64 0]) ?_ 3 _ rfl;(with_reducible repeat first|apply b1_|apply b2_|apply b3_);refine blk_put (cs:=#[.int .i64 ((rd_T51 l1 x17_1).f0),.bool ((rd_T51 l1 x17_1).f1),.int .i64 0,.int .i64 0]) ?_ 2 _ rfl;(with_reducible repeat first|apply b1_|apply b2_|apply b3_);refine blk_put (cs:=#[.int .i64 ((rd_T51 l1 x17_1).f0),.bool false,.int .i64 0,.int .i64 0]) ?_ 1 _ rfl;(with_reducible repeat first|apply b1_|apply b2_|apply b3_);refine blk_put (cs:=#[.int .i64 0,.bool false,.int .i64 0,.int .i64 0]) ?_ 0 _ rfl;(with_reducible repeat first|apply b1_|apply b2_|apply b3_);exact BK437.out) hb);have n2_:=m_ (l5_ (puN HB.out GE435.out GE437.out) hb);revert n0_ n1_ n2_;clear BK435 BK437 HB;intro BK435 BK437 HB;(try clear hb);(try clear hb2);(try clear hk);(try clear hi)))
      go_roundg k1
      case measure=>have:=HK1.out;omega
      case rel=>exact ⟨(wrap64 (x17_1 + 1)),(by first|rfl|(simp;done)|(simp [*];done)),H',⟨by have:=HK1.out;omega⟩,⟨puN HB.out GE435.out GE437.out⟩⟩
     ·replace c9:=Bool.eq_false_iff.mpr c9
      subst c9
      replace H:=ifn H
      obtain rfl:=Option.some.inj H
      have p434 : 0 ≤ (x17_1 : Int):=of_decide_eq_true asm
      have q434 : x17_1 < (l0.length : Int):=of_decide_eq_true asm
      obtain ⟨ad434,e434,hx434_0,hx434_1⟩:=at_T31 HR0.out x17_1 p434 q434
      cases e434
      replace hx434_0:=(HB.out.cell (World.block_lt_of_cell? w _ hx434_0)).trans hx434_0
      replace hx434_1:=(HB.out.cell (World.block_lt_of_cell? w _ hx434_1)).trans hx434_1
      replace p434:=eq_true p434
      replace q434:=eq_true q434
      go_wp2_with (first|((with_reducible refine gate_dst (N:=8) rfl ?_);refine box_event ?hg (N:=8) ?hd (cs:=#[.int .i64 0,.string (⟨#[]⟩ : ByteArray)]) (t:=31) ?hr ?_;(case hd=>rfl);(case hg=>rfl);(case hr=>first|(go_simp;done)|(go_simp;rfl));intro gb435 hg w17 hbox hb;have n0_:=m_ (l5_ (puL HB.out) hb);have n1_:=m_ (hbox);have n2_:=m_ ((by rw [hg];exact (l6_ (puL HB.out)) : w.heap.size ≤ gb435));have n3_:=m_ ((by rw [hg];exact (l6_ (puL HB.out)) : w.heap.size ≤ gb435));revert n0_ n1_ n2_ n3_;clear HB;intro HB BK435 GW435 GE435;clear hb hbox hg;have hcz18_0 : w17.cell? ⟨gb435,0,none⟩ = some (.int .i64 0):=(c_ BK435.out 0).trans rfl;have hcz18_1 : w17.cell? ⟨gb435,1,none⟩ = some (.string (⟨#[]⟩ : ByteArray)):=(c_ BK435.out 1).trans rfl;have hfz18_0:=f_ BK435.out 0;have hfz18_1:=f_ BK435.out 1;have p436 : 0 ≤ (x17_1 : Int):=of_decide_eq_true asm;have q436 : x17_1 < (l1.length : Int):=of_decide_eq_true asm;obtain ⟨ad436,e436,hx436_0,hx436_1,hx436_2,hx436_3⟩:=at_T51 HR1.out x17_1 p436 q436;cases e436;have hn436_0 : ad436.block ≠ gb435:=Nat.ne_of_lt (Nat.lt_of_lt_of_le (by have:=World.block_lt_of_cell? _ _ hx436_0;first|rwa [add_block] at this|exact this) GW435.out);have hn436_1 : ad436.block ≠ gb435:=Nat.ne_of_lt (Nat.lt_of_lt_of_le (by have:=World.block_lt_of_cell? _ _ hx436_0;first|rwa [add_block] at this|exact this) GW435.out);replace hx436_0:=(HB.out.cell (World.block_lt_of_cell? w _ hx436_0)).trans hx436_0;replace hx436_1:=(HB.out.cell (World.block_lt_of_cell? w _ hx436_1)).trans hx436_1;replace hx436_2:=(HB.out.cell (World.block_lt_of_cell? w _ hx436_2)).trans hx436_2;replace hx436_3:=(HB.out.cell (World.block_lt_of_cell? w _ hx436_3)).trans hx436_3;replace hx436_0:=(cell_far (p:=⟨gb435,0,none⟩) (by first|(rw [add_block];exact hn436_0)|(show (Addr.add _ _).block ≠ _;rw [add_block];exact hn436_0)|exact hn436_0) (.int .i64 ((rd_T31 l0 x17_1).f0))).trans hx436_0;replace hx436_1:=(cell_far (p:=⟨gb435,0,none⟩) (by first|(rw [add_block];exact hn436_0)|(show (Addr.add _ _).block ≠ _;rw [add_block];exact hn436_0)|exact hn436_0) (.int .i64 ((rd_T31 l0 x17_1).f0))).trans hx436_1;replace hx436_2:=(cell_far (p:=⟨gb435,0,none⟩) (by first|(rw [add_block];exact hn436_0)|(show (Addr.add _ _).block ≠ _;rw [add_block];exact hn436_0)|exact hn436_0) (.int .i64 ((rd_T31 l0 x17_1).f0))).trans hx436_2;replace hx436_3:=(cell_far (p:=⟨gb435,0,none⟩) (by first|(rw [add_block];exact hn436_0)|(show (Addr.add _ _).block ≠ _;rw [add_block];exact hn436_0)|exact hn436_0) (.int .i64 ((rd_T31 l0 x17_1).f0))).trans hx436_3;replace hx436_0:=(cell_far (p:=⟨gb435,1,none⟩) (by first|(rw [add_block];exact hn436_1)|(show (Addr.add _ _).block ≠ _;rw [add_block];exact hn436_1)|exact hn436_1) (.string ((rd_T31 l0 x17_1).f1))).trans hx436_0;replace hx436_1:=(cell_far (p:=⟨gb435,1,none⟩) (by first|(rw [add_block];exact hn436_1)|(show (Addr.add _ _).block ≠ _;rw [add_block];exact hn436_1)|exact hn436_1) (.string ((rd_T31 l0 x17_1).f1))).trans hx436_1;replace hx436_2:=(cell_far (p:=⟨gb435,1,none⟩) (by first|(rw [add_block];exact hn436_1)|(show (Addr.add _ _).block ≠ _;rw [add_block];exact hn436_1)|exact hn436_1) (.string ((rd_T31 l0 x17_1).f1))).trans hx436_2;replace hx436_3:=(cell_far (p:=⟨gb435,1,none⟩) (by first|(rw [add_block];exact hn436_1)|(show (Addr.add _ _).block ≠ _;rw [add_block];exact hn436_1)|exact hn436_1) (.string ((rd_T31 l0 x17_1).f1))).trans hx436_3;clear hn436_0;clear hn436_1;replace p436:=eq_true p436;replace q436:=eq_true q436)|((with_reducible refine gate_dst (N:=9) rfl ?_);refine box_event ?hg (N:=9) ?hd (cs:=#[.int .i64 0,.bool false,.int .i64 0,.int .i64 0]) (t:=51) ?hr ?_;(case hd=>rfl);(case hg=>rfl);(case hr=>first|(go_simp;done)|(go_simp;rfl));intro gb437 hg w19 hbox hb;have n0_:=m_ (blk_below (g:=gb435) (o:=.cells #[.int .i64 ((rd_T31 l0 x17_1).f0),.string ((rd_T31 l0 x17_1).f1)] 31 (0,0)) (by (with_reducible repeat first|apply b1_|apply b2_|apply b3_);refine blk_put (cs:=#[.int .i64 ((rd_T31 l0 x17_1).f0),.string (⟨#[]⟩ : ByteArray)]) ?_ 1 _ rfl;(with_reducible repeat first|apply b1_|apply b2_|apply b3_);refine blk_put (cs:=#[.int .i64 0,.string (⟨#[]⟩ : ByteArray)]) ?_ 0 _ rfl;(with_reducible repeat first|apply b1_|apply b2_|apply b3_);exact BK435.out) hb);have n1_:=m_ (l5_ (puM HB.out GE435.out) hb);have n2_:=m_ (hbox);have n3_:=m_ ((by rw [hg];exact (l6_ (puM HB.out GE435.out)) : w.heap.size ≤ gb437));have n4_:=n3_;have n5_:=m_ ((by rw [hg];exact Nat.ne_of_lt (blk_lt (g:=gb435) (o:=.cells #[.int .i64 ((rd_T31 l0 x17_1).f0),.string ((rd_T31 l0 x17_1).f1)] 31 (0,0)) (by (with_reducible repeat first|apply b1_|apply b2_|apply b3_);refine blk_put (cs:=#[.int .i64 ((rd_T31 l0 x17_1).f0),.string (⟨#[]⟩ : ByteArray)]) ?_ 1 _ rfl;(with_reducible repeat first|apply b1_|apply b2_|apply b3_);refine blk_put (cs:=#[.int .i64 0,.string (⟨#[]⟩ : ByteArray)]) ?_ 0 _ rfl;(with_reducible repeat first|apply b1_|apply b2_|apply b3_);exact BK435.out)) : gb435 ≠ gb437));have n6_:=m_ ((by rw [hg];exact Nat.ne_of_gt (blk_lt (g:=gb435) (o:=.cells #[.int .i64 ((rd_T31 l0 x17_1).f0),.string ((rd_T31 l0 x17_1).f1)] 31 (0,0)) (by (with_reducible repeat first|apply b1_|apply b2_|apply b3_);refine blk_put (cs:=#[.int .i64 ((rd_T31 l0 x17_1).f0),.string (⟨#[]⟩ : ByteArray)]) ?_ 1 _ rfl;(with_reducible repeat first|apply b1_|apply b2_|apply b3_);refine blk_put (cs:=#[.int .i64 0,.string (⟨#[]⟩ : ByteArray)]) ?_ 0 _ rfl;(with_reducible repeat first|apply b1_|apply b2_|apply b3_);exact BK435.out)) : gb437 ≠ gb435));revert n0_ n1_ n2_ n3_ n4_ n5_ n6_;clear BK435 HB;intro BK435 HB BK437 GW437 GE437 NB435_437 NB437_435;clear hb hbox hg;have hnb20:=NB437_435.out;have hnc20:=NB435_437.out;have hcz21_0 : w19.cell? ⟨gb437,0,none⟩ = some (.int .i64 0):=(c_ BK437.out 0).trans rfl;have hcz21_1 : w19.cell? ⟨gb437,1,none⟩ = some (.bool false):=(c_ BK437.out 1).trans rfl;have hcz21_2 : w19.cell? ⟨gb437,2,none⟩ = some (.int .i64 0):=(c_ BK437.out 2).trans rfl;have hcz21_3 : w19.cell? ⟨gb437,3,none⟩ = some (.int .i64 0):=(c_ BK437.out 3).trans rfl;have hfz21_0:=f_ BK437.out 0;have hfz21_1:=f_ BK437.out 1;have hfz21_2:=f_ BK437.out 2;have hfz21_3:=f_ BK437.out 3;have hcz22_0 : w19.cell? ⟨gb435,0,none⟩ = some (.int .i64 ((rd_T31 l0 x17_1).f0)):=(c_ BK435.out 0).trans rfl;have hcz22_1 : w19.cell? ⟨gb435,1,none⟩ = some (.string ((rd_T31 l0 x17_1).f1)):=(c_ BK435.out 1).trans rfl;have hfz22_0:=f_ BK435.out 0;have hfz22_1:=f_ BK435.out 1)|(go_at_call 40;(with_reducible refine (impl_StreamOk_1.calls ((rd_T31 l0 x17_1).f0) ((rd_T31 l0 x17_1).f1) ((rd_T51 l1 x17_1).f0) ((rd_T51 l1 x17_1).f1) ((rd_T51 l1 x17_1).f2.f0) ((rd_T51 l1 x17_1).f2.f1) false _ A8.out).mono ?_);rintro e w23 ⟨rfl,hb⟩;have n0_:=m_ (blk_below (g:=gb435) (o:=.cells #[.int .i64 ((rd_T31 l0 x17_1).f0),.string ((rd_T31 l0 x17_1).f1)] 31 (0,0)) (by (with_reducible repeat first|apply b1_|apply b2_|apply b3_);refine b4_ ?_ NB435_437.out _;(with_reducible repeat first|apply b1_|apply b2_|apply b3_);refine b4_ ?_ NB435_437.out _;(with_reducible repeat first|apply b1_|apply b2_|apply b3_);refine b4_ ?_ NB435_437.out _;(with_reducible repeat first|apply b1_|apply b2_|apply b3_);refine b4_ ?_ NB435_437.out _;(with_reducible repeat first|apply b1_|apply b2_|apply b3_);exact BK435.out) hb);have n1_:=m_ (blk_below (g:=gb437) (o:=.cells #[.int .i64 ((rd_T51 l1 x17_1).f0),.bool ((rd_T51 l1 x17_1).f1),.int .i64 ((rd_T51 l1 x17_1).f2.f0),.int .i64 ((rd_T51 l1 x17_1).f2.f1)] 51 (0,0)) (by (with_reducible repeat first|apply b1_|apply b2_|apply b3_);refine blk_put (cs:=#[.int .i64 ((rd_T51 l1 x17_1).f0),.bool ((rd_T51 l1 x17_1).f1),.int .i64 ((rd_T51 l1 x17_1).f2.f0),.int .i64 0]) ?_ 3 _ rfl;(with_reducible repeat first|apply b1_|apply b2_|apply b3_);refine blk_put (cs:=#[.int .i64 ((rd_T51 l1 x17_1).f0),.bool ((rd_T51 l1 x17_1).f1),.int .i64 0,.int .i64 0]) ?_ 2 _ rfl;(with_reducible repeat first|apply b1_|apply b2_|apply b3_);refine blk_put (cs:=#[.int .i64 ((rd_T51 l1 x17_1).f0),.bool false,.int .i64 0,.int .i64 0]) ?_ 1 _ rfl;(with_reducible repeat first|apply b1_|apply b2_|apply b3_);refine blk_put (cs:=#[.int .i64 0,.bool false,.int .i64 0,.int .i64 0]) ?_ 0 _ rfl;(with_reducible repeat first|apply b1_|apply b2_|apply b3_);exact BK437.out) hb);have n2_:=m_ (l5_ (puN HB.out GE435.out GE437.out) hb);revert n0_ n1_ n2_;clear BK435 BK437 HB;intro BK435 BK437 HB;(try clear hb);(try clear hb2);(try clear hk);(try clear hi)))
      go_ret
      exact ⟨eqs,puN HB.out GE435.out GE437.out⟩
    ·rw [if_neg c4] at H
     have c4b0 : decide (x17_1 < (l0.length : Int)) = false:=decide_eq_false c4
     clear c4
     obtain rfl:=Option.some.inj H
     go_wp2
     go_ret
     exact ⟨eqs,puL HB.out⟩
 ·rw [if_neg c3] at H
  have c3b0 : ((l0.length : Int) == (l1.length : Int)) = false:=beq_eq_false_iff_ne.mpr c3
  have c3b1 : ((l0.length : Int) != (l1.length : Int)) = true:=bne_iff_ne.mpr c3
  have c3b2 : (l0.length == l1.length) = false:=by first|simpa using c3|(simp at c3 ⊢;omega)
  obtain rfl:=Option.some.inj H
  go_enter Tryz.func39,Tryz.ntmps39
  go_wp2
  go_ret
  exact ⟨eqs,puL HB.out⟩

end Go.Proofs.YtkcjmmhleepjeaaGreatDoor.A
