-- Printed by myprint.py (wip/tools) out of the translation. Not trusted: Lean checks it.
import Derived.Test.YtclhmoghkcnkmaaDoorAx0
import Derived.Test.YtclhmoghkcnkmaaDoorAx3
import Derived.Test.YtclhmoghkcnkmaaDoorAx4
import Derived.Test.YtclhmoghkcnkmaaDoorAx5
namespace Go.Proofs.YtclhmoghkcnkmaaDoor.A
open Go.RowKit Go.Proofs.YtclhmoghkcnkmaaDoorW.PrintWords Go.Proofs.YtclhmoghkcnkmaaDoorW.PrintLast Go.Proofs.YtclhmoghkcnkmaaDoorW.PrintMore
attribute [local go_sem] max2_int min2_int max_two min_two max_three min_three max_four min_four   -- for this text's walks alone
set_option linter.unusedVariables false
set_option linter.unusedSimpArgs false

/-! ### impl_piece: function 71 -/
def impl_piece.f (a0 : ByteArray) : Option (Int × Bool × Int × Int) := (strings_CutPrefix.f a0 (⟨#[64]⟩ : ByteArray)).bind fun bt223 => (if bt223.2 = true then ((impl_readName.f bt223.1).bind fun bt225 => (if bt225.2.2 = true then ((impl_name.f bt225.1 bt225.2.1).bind fun t229 => (some ((t229.size : Int), true, bt225.1, bt225.2.1))) else (some (1, false, 0, 0)))) else (some (1, false, 0, 0)))
set_option maxHeartbeats 8000000 in
set_option maxRecDepth 100000 in
theorem impl_piece.calls (a0 : ByteArray) (r1 : Int) (r2 : Bool) (r3 : Int) (r4 : Int) (w : World) (hG : GV w) (h : impl_piece.f a0 = some (r1, r2, r3, r4)) :
  Calls Tryd.prog 71 #[.string a0] w fun e w'=>e = .returned (.agg #[.int .i64 r1,.bool r2,.int .i64 r3,.int .i64 r4]) ∧ Below w.heap.size w w':=by
 have hu34:=Tryd.underlying34
 have hu32:=Tryd.underlying32
 have HG:=m_ hG
 clear hG
 have HB:=m_ (Below.refl w.heap.size w)
 have H : ((strings_CutPrefix.f a0 (⟨#[64]⟩ : ByteArray)).bind fun bt223=>(if bt223.2 = true then ((impl_readName.f bt223.1).bind fun bt225=>(if bt225.2.2 = true then ((impl_name.f bt225.1 bt225.2.1).bind fun t229=>(some ((t229.size : Int),true,bt225.1,bt225.2.1))) else (some (1,false,0,0)))) else (some (1,false,0,0)))) = some (r1,r2,r3,r4):=h
 clear h
 replace H:=Option.bind_eq_some_iff.mp H
 obtain ⟨⟨t223,t224⟩,A20,H⟩:=H
 replace H : (if t224 = true then ((impl_readName.f t223).bind fun bt225=>(if bt225.2.2 = true then ((impl_name.f bt225.1 bt225.2.1).bind fun t229=>(some ((t229.size : Int),true,bt225.1,bt225.2.1))) else (some (1,false,0,0)))) else (some (1,false,0,0))) = some (r1,r2,r3,r4):=H
 have A2:=m_ A20
 clear A20
 by_cases c3 : t224 = true
 ·subst c3
  have H1 : ((impl_readName.f t223).bind fun bt225=>(if bt225.2.2 = true then ((impl_name.f bt225.1 bt225.2.1).bind fun t229=>(some ((t229.size : Int),true,bt225.1,bt225.2.1))) else (some (1,false,0,0)))) = some (r1,r2,r3,r4):=by rw [if_pos rfl] at H;exact H
  clear H
  have H:=H1
  clear H1
  replace H:=Option.bind_eq_some_iff.mp H
  obtain ⟨⟨t225,t226,t227⟩,A40,H⟩:=H
  replace H : (if t227 = true then ((impl_name.f t225 t226).bind fun t229=>(some ((t229.size : Int),true,t225,t226))) else (some (1,false,0,0))) = some (r1,r2,r3,r4):=H
  have A4:=m_ A40
  clear A40
  by_cases c5 : t227 = true
  ·subst c5
   have H1 : ((impl_name.f t225 t226).bind fun t229=>(some ((t229.size : Int),true,t225,t226))) = some (r1,r2,r3,r4):=by rw [if_pos rfl] at H;exact H
   clear H
   have H:=H1
   clear H1
   replace H:=Option.bind_eq_some_iff.mp H
   obtain ⟨t229,A60,H⟩:=H
   replace H : (some ((t229.size : Int),true,t225,t226)) = some (r1,r2,r3,r4):=H
   have A6:=m_ A60
   clear A60
   simp only [Option.some.injEq,Prod.mk.injEq] at H
   obtain ⟨rfl,rfl,rfl,rfl⟩:=H
   go_enter Tryd.func71,Tryd.ntmps71
   try go_wp2_with (first|((with_reducible refine gate_dst (N:=2) rfl ?_);refine box_event ?hg (N:=2) ?hd (cs:=#[.int .i64 0,.bool false,.int .i64 0,.int .i64 0]) (t:=34) ?hr ?_;(case hd=>rfl);(case hg=>rfl);(case hr=>first|(go_simp;done)|(go_simp;rfl));intro gb222 hg w7 hbox hb;have n0_:=m_ (l5_ (by repeat (first|(with_reducible first|exact HB.out|apply l1_|apply l2_|apply l3_)|exact HB.out)) hb);have n1_:=m_ (hbox);have n2_:=m_ ((by rw [hg];exact (l6_ (by repeat (first|(with_reducible first|exact HB.out|apply l1_|apply l2_|apply l3_)|exact HB.out))) : w.heap.size ≤ gb222));have n3_:=m_ ((by rw [hg];exact (l6_ (by repeat (first|(with_reducible first|exact HB.out|apply l1_|apply l2_|apply l3_)|exact HB.out))) : w.heap.size ≤ gb222));clear HB;have HB:=n0_;have BK222:=n1_;have GW222:=n2_;have GE222:=n3_;clear n0_ n1_ n2_ n3_;clear hb hbox hg)|((with_reducible refine gate_callee (f:=83) rfl ?_);refine goesL_ (some 9) rfl rfl Tryd.func83 (by kernel_rfl) rfl #[.string a0,.string (⟨#[64]⟩ : ByteArray)] rfl (by (try simp only [List.map_toArray,List.map_cons,List.map_nil]);first|done|rfl|(simp only [List.length_drop,List.length_take];rfl)) ?_;(with_reducible refine (strings_CutPrefix.calls a0 (⟨#[64]⟩ : ByteArray) t223 true _ A2.out).mono ?_);rintro e w' ⟨rfl,⟨nd,rfl⟩⟩;refine ⟨_,rfl,?_⟩;(try (rw [drewN_self w7];generalize hq_ : World.drewN w7 _ = w7;have n0_ : Aside0 (w7.heap[gb222]? = some (.cells #[.int .i64 0,.bool false,.int .i64 0,.int .i64 0] 34 (0,0))):=⟨by rw [← hq_];exact (by (with_reducible repeat first|apply b1_|apply b2_|apply b3_);exact BK222.out)⟩;have n1_ : Aside0 (Below w.heap.size w w7):=⟨by rw [← hq_];exact (by repeat (first|(with_reducible first|exact HB.out|apply l1_|apply l2_|apply l3_|refine l4_ ?_ GE222.out)|exact HB.out))⟩;clear BK222 HB hq_;have BK222:=n0_;have HB:=n1_;clear n0_ n1_)))|((with_reducible refine gate_callee (f:=84) rfl ?_);refine goesL_ (some 15) rfl rfl Tryd.func84 (by kernel_rfl) rfl #[.string t223] rfl (by (try simp only [List.map_toArray,List.map_cons,List.map_nil]);first|done|rfl|(simp only [List.length_drop,List.length_take];rfl)) ?_;(with_reducible refine (impl_readName.calls t223 t225 t226 true _ ?side1 A4.out).mono ?_);(case side1=>first|exact HG.out|exact GV_below HG.out (by repeat (first|(with_reducible first|exact HB.out|apply l1_|apply l2_|apply l3_|refine l4_ ?_ GE222.out)|exact HB.out)));rintro e w8 ⟨rfl,hb⟩;refine ⟨_,rfl,?_⟩;have n0_:=m_ (blk_below (g:=gb222) (o:=.cells #[.int .i64 0,.bool false,.int .i64 0,.int .i64 0] 34 (0,0)) (by (with_reducible repeat first|apply b1_|apply b2_|apply b3_);exact BK222.out) hb);have n1_:=m_ (l5_ (by repeat (first|(with_reducible first|exact HB.out|apply l1_|apply l2_|apply l3_|refine l4_ ?_ GE222.out)|exact HB.out)) hb);clear BK222;clear HB;have BK222:=n0_;have HB:=n1_;clear n0_ n1_;(try clear hb);(try clear hb2);(try clear hk);(try clear hi))|((with_reducible refine gate_dst (N:=5) rfl ?_);refine box_event ?hg (N:=5) ?hd (cs:=#[.int .i64 0,.int .i64 0]) (t:=32) ?hr ?_;(case hd=>rfl);(case hg=>rfl);(case hr=>first|(go_simp;done)|(go_simp;rfl));intro gb228 hg w9 hbox hb;have n0_:=m_ (blk_below (g:=gb222) (o:=.cells #[.int .i64 0,.bool false,.int .i64 0,.int .i64 0] 34 (0,0)) (by (with_reducible repeat first|apply b1_|apply b2_|apply b3_);exact BK222.out) hb);have n1_:=m_ (l5_ (by repeat (first|(with_reducible first|exact HB.out|apply l1_|apply l2_|apply l3_|refine l4_ ?_ GE222.out)|exact HB.out)) hb);have n2_:=m_ (hbox);have n3_:=m_ ((by rw [hg];exact (l6_ (by repeat (first|(with_reducible first|exact HB.out|apply l1_|apply l2_|apply l3_|refine l4_ ?_ GE222.out)|exact HB.out))) : w.heap.size ≤ gb228));have n4_:=n3_;have n5_:=m_ ((by rw [hg];exact Nat.ne_of_lt (blk_lt (g:=gb222) (o:=.cells #[.int .i64 0,.bool false,.int .i64 0,.int .i64 0] 34 (0,0)) (by (with_reducible repeat first|apply b1_|apply b2_|apply b3_);exact BK222.out)) : gb222 ≠ gb228));have n6_:=m_ n5_.out.symm;clear BK222;clear HB;have BK222:=n0_;have HB:=n1_;have BK228:=n2_;have GW228:=n3_;have GE228:=n4_;have NB222_228:=n5_;have NB228_222:=n6_;clear n0_ n1_ n2_ n3_ n4_ n5_ n6_;clear hb hbox hg;have hnb10:=NB228_222.out;have hnc10:=NB222_228.out;have hcz11_0 : w9.cell? ⟨gb228,0,none⟩ = some (.int .i64 0):=(c_ BK228.out 0).trans rfl;have hcz11_1 : w9.cell? ⟨gb228,1,none⟩ = some (.int .i64 0):=(c_ BK228.out 1).trans rfl;have hfz11_0:=f_ BK228.out 0;have hfz11_1:=f_ BK228.out 1))
   have n0_ : Aside0 (((w9.setCell ⟨gb228,0,none⟩ (.int .i64 t225)).setCell ⟨gb228,1,none⟩ (.int .i64 t226)).heap[gb222]? = some (.cells #[.int .i64 0,.bool false,.int .i64 0,.int .i64 0] 34 (0,0))):=⟨by (with_reducible repeat first|apply b1_|apply b2_|apply b3_);refine b4_ ?_ NB222_228.out _;(with_reducible repeat first|apply b1_|apply b2_|apply b3_);refine b4_ ?_ NB222_228.out _;(with_reducible repeat first|apply b1_|apply b2_|apply b3_);exact BK222.out⟩
   have n1_ : Aside0 (((w9.setCell ⟨gb228,0,none⟩ (.int .i64 t225)).setCell ⟨gb228,1,none⟩ (.int .i64 t226)).heap[gb228]? = some (.cells #[.int .i64 t225,.int .i64 t226] 32 (0,0))):=⟨by (with_reducible repeat first|apply b1_|apply b2_|apply b3_);refine blk_put (cs:=#[.int .i64 t225,.int .i64 0]) ?_ 1 _ rfl;(with_reducible repeat first|apply b1_|apply b2_|apply b3_);refine blk_put (cs:=#[.int .i64 0,.int .i64 0]) ?_ 0 _ rfl;(with_reducible repeat first|apply b1_|apply b2_|apply b3_);exact BK228.out⟩
   have n2_ : Aside0 (Below w.heap.size w ((w9.setCell ⟨gb228,0,none⟩ (.int .i64 t225)).setCell ⟨gb228,1,none⟩ (.int .i64 t226))):=⟨by repeat (first|(with_reducible first|exact HB.out|apply l1_|apply l2_|apply l3_|refine l4_ ?_ GE222.out|refine l4_ ?_ GE228.out)|exact HB.out)⟩
   (try clear BK222)
   (try clear BK228)
   (try clear HB)
   generalize ((w9.setCell ⟨gb228,0,none⟩ (.int .i64 t225)).setCell ⟨gb228,1,none⟩ (.int .i64 t226)) = w12 at n0_ n1_ n2_ ⊢
   have BK222:=n0_
   have BK228:=n1_
   have HB:=n2_
   clear n0_ n1_ n2_
   have n0_:=m_ (b2_ BK222.out)
   have n1_:=m_ (b2_ BK228.out)
   have n2_:=m_ (l3_ HB.out)
   clear BK222
   clear BK228
   clear HB
   have BK222:=n0_
   have BK228:=n1_
   have HB:=n2_
   clear n0_ n1_ n2_
   refine start_ (n:=6) (S:=fun w'=>w'.cell? ⟨gb228,0,none⟩ = some (.int .i64 t225) ∧ w'.cell? ⟨gb228,1,none⟩ = some (.int .i64 t226)) (ds:=[]) #[false,false,false,false,false,false] (by kernel_rfl) rfl rfl ⟨(c_ BK228.out 0).trans rfl,(c_ BK228.out 1).trans rfl⟩ (fun hHeld=>?_)
   generalize w12.drew = w13 at BK222 BK228 HB hHeld ⊢
   refine take_ (i:=0) (N:=some 19) (v:=?_) (a':=?_) #[true,false,false,false,false,false] rfl rfl (by kernel_rfl) (fun _ _ _ h=>h) (Or.inl ⟨by rfl,?_⟩) hHeld ?_ ?_
   rotate_left
   ·rintro w' ⟨s0,s1⟩
    go_simp
    with_reducible rfl
   rotate_left
   ·simp only [Act.put,s1_,s2_,s3_,i64_w,i32_w]
    rfl
   refine take_ (i:=3) (N:=some 22) (v:=?_) (a':=?_) #[true,false,false,true,false,false] rfl rfl (by kernel_rfl) (fun _ _ _ h=>h) (Or.inl ⟨by rfl,?_⟩) hHeld ?_ ?_
   rotate_left
   ·rintro w' ⟨s0,s1⟩
    go_simp
    with_reducible rfl
   rotate_left
   ·simp only [Act.put,s1_,s2_,s3_,i64_w,i32_w]
    rfl
   refine one_ (i:=1) (N:=some 20) #[true,true,false,true,false,false] rfl rfl (by kernel_rfl) (by decide) (fun K hK=>?_)
   refine goes_ Tryd.func85 (by kernel_rfl) rfl #[.agg #[.int .i64 t225,.int .i64 t226]] (by rfl) rfl rfl (by (try simp only [List.map_toArray,List.map_cons,List.map_nil]);first|done|rfl|(simp only [List.length_drop,List.length_take];rfl)) ?_
   with_reducible refine (impl_name.calls t225 t226 t229 _ A6.out).mono ?_
   rintro e w14 ⟨rfl,hb⟩
   refine ⟨_,rfl,?_⟩
   have n0_:=m_ (blk_below (g:=gb222) (o:=.cells #[.int .i64 0,.bool false,.int .i64 0,.int .i64 0] 34 (0,0)) (by (with_reducible repeat first|apply b1_|apply b2_|apply b3_);exact BK222.out) hb)
   have n1_:=m_ (blk_below (g:=gb228) (o:=.cells #[.int .i64 t225,.int .i64 t226] 32 (0,0)) (by (with_reducible repeat first|apply b1_|apply b2_|apply b3_);exact BK228.out) hb)
   have n2_:=m_ (l5_ (by repeat (first|(with_reducible first|exact HB.out|apply l1_|apply l2_|apply l3_|refine l4_ ?_ GE222.out|refine l4_ ?_ GE228.out)|exact HB.out)) hb)
   clear BK222
   clear BK228
   clear HB
   have BK222:=n0_
   have BK228:=n1_
   have HB:=n2_
   clear n0_ n1_ n2_
   (try clear hb)
   (try clear hb2)
   (try clear hk)
   (try clear hi)
   refine hK.out _ _ ⟨(c_ BK228.out 0).trans rfl,(c_ BK228.out 1).trans rfl⟩ (fun hHeld=>?_)
   clear hK K
   refine norm_ (a':=?_) ?_ ?_
   rotate_left
   ·show Act.put _ (some 20) _ = _
    simp only [Act.put,s1_,s2_,s3_,i64_w,i32_w]
    rfl
   refine pure_ (i:=2) (N:=some 21) (v:=?_) (a':=?_) #[true,true,true,true,false,false] rfl rfl (by kernel_rfl) (fun _ _ _ h=>h) (Or.inl ⟨by rfl,?_⟩) ?_ ?_
   rotate_left
   ·intro w'
    go_simp
    with_reducible rfl
   rotate_left
   ·simp only [Act.put,s1_,s2_,s3_,i64_w,i32_w]
    rfl
   refine pure_ (i:=4) (N:=some 23) (v:=?_) (a':=?_) #[true,true,true,true,true,false] rfl rfl (by kernel_rfl) (fun _ _ _ h=>h) (Or.inl ⟨by rfl,?_⟩) ?_ ?_
   rotate_left
   ·intro w'
    go_simp
    with_reducible rfl
   rotate_left
   ·simp only [Act.put,s1_,s2_,s3_,i64_w,i32_w]
    rfl
   refine one_ (i:=5) (N:=none) #[true,true,true,true,true,true] rfl rfl (by kernel_rfl) (by decide) (fun K hK=>?_)
   have hs15 : w14.cell? ⟨gb222,0,none⟩ = some (.int .i64 0):=(c_ BK222.out 0).trans rfl
   have hfs15:=f_ BK222.out 0
   have hns15_1:=NB228_222.out
   have hms15_1:=NB222_228.out
   have hs16 : w14.cell? ⟨gb222,1,none⟩ = some (.bool false):=(c_ BK222.out 1).trans rfl
   have hfs16:=f_ BK222.out 1
   have hns16_1:=NB228_222.out
   have hms16_1:=NB222_228.out
   have hs17 : w14.cell? ⟨gb222,2,none⟩ = some (.int .i64 0):=(c_ BK222.out 2).trans rfl
   have hfs17:=f_ BK222.out 2
   have hns17_1:=NB228_222.out
   have hms17_1:=NB222_228.out
   have hs18 : w14.cell? ⟨gb222,3,none⟩ = some (.int .i64 0):=(c_ BK222.out 3).trans rfl
   have hfs18:=f_ BK222.out 3
   have hns18_1:=NB228_222.out
   have hms18_1:=NB222_228.out
   refine skip_ (w1:=?_) (by rfl) rfl ?_ ?_
   rotate_left
   ·go_simp
    rfl
   refine hK.out _ _ ⟨((cell_far (p:=⟨gb222,_,none⟩) NB228_222.out _).trans (((cell_far (p:=⟨gb222,_,none⟩) NB228_222.out _).trans (((cell_far (p:=⟨gb222,_,none⟩) NB228_222.out _).trans (((cell_far (p:=⟨gb222,_,none⟩) NB228_222.out _).trans (hHeld.1)))))))),((cell_far (p:=⟨gb222,_,none⟩) NB228_222.out _).trans (((cell_far (p:=⟨gb222,_,none⟩) NB228_222.out _).trans (((cell_far (p:=⟨gb222,_,none⟩) NB228_222.out _).trans (((cell_far (p:=⟨gb222,_,none⟩) NB228_222.out _).trans (hHeld.2))))))))⟩ (fun hHeld=>?_)
   clear hK K
   refine done_ (by kernel_rfl) ?_
   try go_wp2
   refine bodyPost_ret (results_cell_row rfl _ _ gb222 34 #[.int .i64 (t229.size : Int),.bool true,.int .i64 t225,.int .i64 t226] (0,0) _ rfl (by (with_reducible repeat first|apply b1_|apply b2_|apply b3_);refine blk_put (cs:=#[.int .i64 (t229.size : Int),.bool true,.int .i64 t225,.int .i64 0]) ?_ 3 _ rfl;(with_reducible repeat first|apply b1_|apply b2_|apply b3_);refine blk_put (cs:=#[.int .i64 (t229.size : Int),.bool true,.int .i64 0,.int .i64 0]) ?_ 2 _ rfl;(with_reducible repeat first|apply b1_|apply b2_|apply b3_);refine blk_put (cs:=#[.int .i64 (t229.size : Int),.bool false,.int .i64 0,.int .i64 0]) ?_ 1 _ rfl;(with_reducible repeat first|apply b1_|apply b2_|apply b3_);refine blk_put (cs:=#[.int .i64 0,.bool false,.int .i64 0,.int .i64 0]) ?_ 0 _ rfl;(with_reducible repeat first|apply b1_|apply b2_|apply b3_);exact BK222.out) Tryd.underlying34 rfl (by kernel_rfl)) rfl ?_
   exact ⟨by first|rfl|(simp [e1_,e2_] <;> rfl)|(simp [*,e1_,e2_] <;> rfl)|(simp [e1_,e2_,pk_empty1,pk_empty2];done)|(simp [*,e1_,e2_,pk_empty1,pk_empty2];done),by repeat (first|(with_reducible first|exact HB.out|apply l1_|apply l2_|apply l3_|refine l4_ ?_ GE222.out|refine l4_ ?_ GE228.out)|exact HB.out)⟩
  ·replace c5:=Bool.eq_false_iff.mpr c5
   subst c5
   have H1 : (some (1,false,0,0)) = some (r1,r2,r3,r4):=by rw [if_neg (show ¬ (false = true) by decide)] at H;exact H
   clear H
   have H:=H1
   clear H1
   simp only [Option.some.injEq,Prod.mk.injEq] at H
   obtain ⟨rfl,rfl,rfl,rfl⟩:=H
   go_enter Tryd.func71,Tryd.ntmps71
   go_wp2_with (first|((with_reducible refine gate_dst (N:=2) rfl ?_);refine box_event ?hg (N:=2) ?hd (cs:=#[.int .i64 0,.bool false,.int .i64 0,.int .i64 0]) (t:=34) ?hr ?_;(case hd=>rfl);(case hg=>rfl);(case hr=>first|(go_simp;done)|(go_simp;rfl));intro gb222 hg w19 hbox hb;have n0_:=m_ (l5_ (by repeat (first|(with_reducible first|exact HB.out|apply l1_|apply l2_|apply l3_)|exact HB.out)) hb);have n1_:=m_ (hbox);have n2_:=m_ ((by rw [hg];exact (l6_ (by repeat (first|(with_reducible first|exact HB.out|apply l1_|apply l2_|apply l3_)|exact HB.out))) : w.heap.size ≤ gb222));have n3_:=m_ ((by rw [hg];exact (l6_ (by repeat (first|(with_reducible first|exact HB.out|apply l1_|apply l2_|apply l3_)|exact HB.out))) : w.heap.size ≤ gb222));clear HB;have HB:=n0_;have BK222:=n1_;have GW222:=n2_;have GE222:=n3_;clear n0_ n1_ n2_ n3_;clear hb hbox hg)|((with_reducible refine gate_callee (f:=83) rfl ?_);refine goesL_ (some 9) rfl rfl Tryd.func83 (by kernel_rfl) rfl #[.string a0,.string (⟨#[64]⟩ : ByteArray)] rfl (by (try simp only [List.map_toArray,List.map_cons,List.map_nil]);first|done|rfl|(simp only [List.length_drop,List.length_take];rfl)) ?_;(with_reducible refine (strings_CutPrefix.calls a0 (⟨#[64]⟩ : ByteArray) t223 true _ A2.out).mono ?_);rintro e w' ⟨rfl,⟨nd,rfl⟩⟩;refine ⟨_,rfl,?_⟩;(try (rw [drewN_self w19];generalize hq_ : World.drewN w19 _ = w19;have n0_ : Aside0 (w19.heap[gb222]? = some (.cells #[.int .i64 0,.bool false,.int .i64 0,.int .i64 0] 34 (0,0))):=⟨by rw [← hq_];exact (by (with_reducible repeat first|apply b1_|apply b2_|apply b3_);exact BK222.out)⟩;have n1_ : Aside0 (Below w.heap.size w w19):=⟨by rw [← hq_];exact (by repeat (first|(with_reducible first|exact HB.out|apply l1_|apply l2_|apply l3_|refine l4_ ?_ GE222.out)|exact HB.out))⟩;clear BK222 HB hq_;have BK222:=n0_;have HB:=n1_;clear n0_ n1_)))|((with_reducible refine gate_callee (f:=84) rfl ?_);refine goesL_ (some 15) rfl rfl Tryd.func84 (by kernel_rfl) rfl #[.string t223] rfl (by (try simp only [List.map_toArray,List.map_cons,List.map_nil]);first|done|rfl|(simp only [List.length_drop,List.length_take];rfl)) ?_;(with_reducible refine (impl_readName.calls t223 t225 t226 false _ ?side1 A4.out).mono ?_);(case side1=>first|exact HG.out|exact GV_below HG.out (by repeat (first|(with_reducible first|exact HB.out|apply l1_|apply l2_|apply l3_|refine l4_ ?_ GE222.out)|exact HB.out)));rintro e w20 ⟨rfl,hb⟩;refine ⟨_,rfl,?_⟩;have n0_:=m_ (blk_below (g:=gb222) (o:=.cells #[.int .i64 0,.bool false,.int .i64 0,.int .i64 0] 34 (0,0)) (by (with_reducible repeat first|apply b1_|apply b2_|apply b3_);exact BK222.out) hb);have n1_:=m_ (l5_ (by repeat (first|(with_reducible first|exact HB.out|apply l1_|apply l2_|apply l3_|refine l4_ ?_ GE222.out)|exact HB.out)) hb);clear BK222;clear HB;have BK222:=n0_;have HB:=n1_;clear n0_ n1_;(try clear hb);(try clear hb2);(try clear hk);(try clear hi))|((with_reducible refine gate_dst (N:=5) rfl ?_);refine box_event ?hg (N:=5) ?hd (cs:=#[.int .i64 0,.int .i64 0]) (t:=32) ?hr ?_;(case hd=>rfl);(case hg=>rfl);(case hr=>first|(go_simp;done)|(go_simp;rfl));intro gb228 hg w21 hbox hb;have n0_:=m_ (blk_below (g:=gb222) (o:=.cells #[.int .i64 0,.bool false,.int .i64 0,.int .i64 0] 34 (0,0)) (by (with_reducible repeat first|apply b1_|apply b2_|apply b3_);exact BK222.out) hb);have n1_:=m_ (l5_ (by repeat (first|(with_reducible first|exact HB.out|apply l1_|apply l2_|apply l3_|refine l4_ ?_ GE222.out)|exact HB.out)) hb);have n2_:=m_ (hbox);have n3_:=m_ ((by rw [hg];exact (l6_ (by repeat (first|(with_reducible first|exact HB.out|apply l1_|apply l2_|apply l3_|refine l4_ ?_ GE222.out)|exact HB.out))) : w.heap.size ≤ gb228));have n4_:=n3_;have n5_:=m_ ((by rw [hg];exact Nat.ne_of_lt (blk_lt (g:=gb222) (o:=.cells #[.int .i64 0,.bool false,.int .i64 0,.int .i64 0] 34 (0,0)) (by (with_reducible repeat first|apply b1_|apply b2_|apply b3_);exact BK222.out)) : gb222 ≠ gb228));have n6_:=m_ n5_.out.symm;clear BK222;clear HB;have BK222:=n0_;have HB:=n1_;have BK228:=n2_;have GW228:=n3_;have GE228:=n4_;have NB222_228:=n5_;have NB228_222:=n6_;clear n0_ n1_ n2_ n3_ n4_ n5_ n6_;clear hb hbox hg;have hnb22:=NB228_222.out;have hnc22:=NB222_228.out;have hcz23_0 : w21.cell? ⟨gb228,0,none⟩ = some (.int .i64 0):=(c_ BK228.out 0).trans rfl;have hcz23_1 : w21.cell? ⟨gb228,1,none⟩ = some (.int .i64 0):=(c_ BK228.out 1).trans rfl;have hfz23_0:=f_ BK228.out 0;have hfz23_1:=f_ BK228.out 1;have hcz24_0 : w21.cell? ⟨gb222,0,none⟩ = some (.int .i64 0):=(c_ BK222.out 0).trans rfl;have hcz24_1 : w21.cell? ⟨gb222,1,none⟩ = some (.bool false):=(c_ BK222.out 1).trans rfl;have hcz24_2 : w21.cell? ⟨gb222,2,none⟩ = some (.int .i64 0):=(c_ BK222.out 2).trans rfl;have hcz24_3 : w21.cell? ⟨gb222,3,none⟩ = some (.int .i64 0):=(c_ BK222.out 3).trans rfl;have hfz24_0:=f_ BK222.out 0;have hfz24_1:=f_ BK222.out 1;have hfz24_2:=f_ BK222.out 2;have hfz24_3:=f_ BK222.out 3))
   refine bodyPost_ret (results_cell_row rfl _ _ gb222 34 #[.int .i64 1,.bool false,.int .i64 0,.int .i64 0] (0,0) _ rfl (by (with_reducible repeat first|apply b1_|apply b2_|apply b3_);refine blk_put (cs:=#[.int .i64 1,.bool false,.int .i64 0,.int .i64 0]) ?_ 3 _ rfl;(with_reducible repeat first|apply b1_|apply b2_|apply b3_);refine blk_put (cs:=#[.int .i64 1,.bool false,.int .i64 0,.int .i64 0]) ?_ 2 _ rfl;(with_reducible repeat first|apply b1_|apply b2_|apply b3_);refine blk_put (cs:=#[.int .i64 1,.bool false,.int .i64 0,.int .i64 0]) ?_ 1 _ rfl;(with_reducible repeat first|apply b1_|apply b2_|apply b3_);refine blk_put (cs:=#[.int .i64 0,.bool false,.int .i64 0,.int .i64 0]) ?_ 0 _ rfl;(with_reducible repeat first|apply b1_|apply b2_|apply b3_);refine b4_ ?_ NB222_228.out _;(with_reducible repeat first|apply b1_|apply b2_|apply b3_);refine b4_ ?_ NB222_228.out _;(with_reducible repeat first|apply b1_|apply b2_|apply b3_);exact BK222.out) Tryd.underlying34 rfl (by kernel_rfl)) rfl ?_
   exact ⟨by first|rfl|(simp [e1_,e2_] <;> rfl)|(simp [*,e1_,e2_] <;> rfl)|(simp [e1_,e2_,pk_empty1,pk_empty2];done)|(simp [*,e1_,e2_,pk_empty1,pk_empty2];done),by repeat (first|(with_reducible first|exact HB.out|apply l1_|apply l2_|apply l3_|refine l4_ ?_ GE222.out|refine l4_ ?_ GE228.out)|exact HB.out)⟩
 ·replace c3:=Bool.eq_false_iff.mpr c3
  subst c3
  have H1 : (some (1,false,0,0)) = some (r1,r2,r3,r4):=by rw [if_neg (show ¬ (false = true) by decide)] at H;exact H
  clear H
  have H:=H1
  clear H1
  simp only [Option.some.injEq,Prod.mk.injEq] at H
  obtain ⟨rfl,rfl,rfl,rfl⟩:=H
  go_enter Tryd.func71,Tryd.ntmps71
  go_wp2_with (first|((with_reducible refine gate_dst (N:=2) rfl ?_);refine box_event ?hg (N:=2) ?hd (cs:=#[.int .i64 0,.bool false,.int .i64 0,.int .i64 0]) (t:=34) ?hr ?_;(case hd=>rfl);(case hg=>rfl);(case hr=>first|(go_simp;done)|(go_simp;rfl));intro gb222 hg w25 hbox hb;have n0_:=m_ (l5_ (by repeat (first|(with_reducible first|exact HB.out|apply l1_|apply l2_|apply l3_)|exact HB.out)) hb);have n1_:=m_ (hbox);have n2_:=m_ ((by rw [hg];exact (l6_ (by repeat (first|(with_reducible first|exact HB.out|apply l1_|apply l2_|apply l3_)|exact HB.out))) : w.heap.size ≤ gb222));have n3_:=m_ ((by rw [hg];exact (l6_ (by repeat (first|(with_reducible first|exact HB.out|apply l1_|apply l2_|apply l3_)|exact HB.out))) : w.heap.size ≤ gb222));clear HB;have HB:=n0_;have BK222:=n1_;have GW222:=n2_;have GE222:=n3_;clear n0_ n1_ n2_ n3_;clear hb hbox hg)|((with_reducible refine gate_callee (f:=83) rfl ?_);refine goesL_ (some 9) rfl rfl Tryd.func83 (by kernel_rfl) rfl #[.string a0,.string (⟨#[64]⟩ : ByteArray)] rfl (by (try simp only [List.map_toArray,List.map_cons,List.map_nil]);first|done|rfl|(simp only [List.length_drop,List.length_take];rfl)) ?_;(with_reducible refine (strings_CutPrefix.calls a0 (⟨#[64]⟩ : ByteArray) t223 false _ A2.out).mono ?_);rintro e w' ⟨rfl,⟨nd,rfl⟩⟩;refine ⟨_,rfl,?_⟩;(try (rw [drewN_self w25];generalize hq_ : World.drewN w25 _ = w25;have n0_ : Aside0 (w25.heap[gb222]? = some (.cells #[.int .i64 0,.bool false,.int .i64 0,.int .i64 0] 34 (0,0))):=⟨by rw [← hq_];exact (by (with_reducible repeat first|apply b1_|apply b2_|apply b3_);exact BK222.out)⟩;have n1_ : Aside0 (Below w.heap.size w w25):=⟨by rw [← hq_];exact (by repeat (first|(with_reducible first|exact HB.out|apply l1_|apply l2_|apply l3_|refine l4_ ?_ GE222.out)|exact HB.out))⟩;clear BK222 HB hq_;have BK222:=n0_;have HB:=n1_;clear n0_ n1_));have hcz26_0 : w25.cell? ⟨gb222,0,none⟩ = some (.int .i64 0):=(c_ BK222.out 0).trans rfl;have hcz26_1 : w25.cell? ⟨gb222,1,none⟩ = some (.bool false):=(c_ BK222.out 1).trans rfl;have hcz26_2 : w25.cell? ⟨gb222,2,none⟩ = some (.int .i64 0):=(c_ BK222.out 2).trans rfl;have hcz26_3 : w25.cell? ⟨gb222,3,none⟩ = some (.int .i64 0):=(c_ BK222.out 3).trans rfl;have hfz26_0:=f_ BK222.out 0;have hfz26_1:=f_ BK222.out 1;have hfz26_2:=f_ BK222.out 2;have hfz26_3:=f_ BK222.out 3))
  refine bodyPost_ret (results_cell_row rfl _ _ gb222 34 #[.int .i64 1,.bool false,.int .i64 0,.int .i64 0] (0,0) _ rfl (by (with_reducible repeat first|apply b1_|apply b2_|apply b3_);refine blk_put (cs:=#[.int .i64 1,.bool false,.int .i64 0,.int .i64 0]) ?_ 3 _ rfl;(with_reducible repeat first|apply b1_|apply b2_|apply b3_);refine blk_put (cs:=#[.int .i64 1,.bool false,.int .i64 0,.int .i64 0]) ?_ 2 _ rfl;(with_reducible repeat first|apply b1_|apply b2_|apply b3_);refine blk_put (cs:=#[.int .i64 1,.bool false,.int .i64 0,.int .i64 0]) ?_ 1 _ rfl;(with_reducible repeat first|apply b1_|apply b2_|apply b3_);refine blk_put (cs:=#[.int .i64 0,.bool false,.int .i64 0,.int .i64 0]) ?_ 0 _ rfl;(with_reducible repeat first|apply b1_|apply b2_|apply b3_);exact BK222.out) Tryd.underlying34 rfl (by kernel_rfl)) rfl ?_
  exact ⟨by first|rfl|(simp [e1_,e2_] <;> rfl)|(simp [*,e1_,e2_] <;> rfl)|(simp [e1_,e2_,pk_empty1,pk_empty2];done)|(simp [*,e1_,e2_,pk_empty1,pk_empty2];done),by repeat (first|(with_reducible first|exact HB.out|apply l1_|apply l2_|apply l3_|refine l4_ ?_ GE222.out)|exact HB.out)⟩

/-! ### slices_Clip_Piece: function 72 -/
/-- The same row, with no more capacity than it has elements. -/
def slices_Clip_Piece.f (l0 : List (S34)) : Option (List (S34)) := some l0
theorem slices_Clip_Piece.calls (P0_ : Nat → Prop) (u9000_ : Value) (l0 : List (S34)) (r : List (S34)) (w0 w : World) (hB : Below w0.heap.size w0 w) (ho0 : Kd.R k34 34 w w0.heap.size P0_ u9000_ l0) (h : slices_Clip_Piece.f l0 = some r) :
  Calls Tryd.prog 72 #[u9000_] w fun e w'=>∃ v0_ : Value,e = .returned v0_ ∧ Kd.R k34 34 w' w0.heap.size (fun k_=>(P0_ k_ ∨ w.heap.size ≤ k_)) v0_ r ∧ Below w0.heap.size w0 w' ∧ Kept w w' (fun k_=>P0_ k_):=by
 obtain rfl:=Option.some.inj h
 obtain ⟨hok,inner,ho,hr⟩:=ho0
 have fin : ∀ v : Value,v.ownBlock = u9000_.ownBlock → Go.Proofs.YtclhmoghkcnkmaaDoorW.ownsWide w w0.heap.size 34 k34.sz v l0.length inner → Kd.R k34 34 w w0.heap.size (fun k_=>(P0_ k_ ∨ w.heap.size ≤ k_)) v l0:=by
  intro v hv hw
  refine ⟨fun k hk=>.inl (hok k (hv ▸ hk)),inner,hw,hr.imp_ (fun _ _ hp=>Kd.M_mono _ (fun k hk=>⟨.inl hk.1,hv ▸ hk.2⟩) hp)⟩
 rcases ho.2 with ⟨rfl,hn⟩|⟨g,cap,cur,rfl,hb,hg,h4,h5,h6,h7⟩
 ·go_enter Tryd.func72,Tryd.ntmps72
  go_wp2
  go_ret
  exact ⟨_,rfl,fin _ rfl ho,hB,Kept.refl _ _⟩
 ·have e0 : (0 : Int) ≤ (l0.length : Int):=Int.natCast_nonneg _
  have e1 : (l0.length : Int) ≤ (cap : Int):=Int.ofNat_le.2 h4
  go_enter Tryd.func72,Tryd.ntmps72
  go_wp2
  go_ret
  exact ⟨_,rfl,fin _ rfl ho.clip,hB,Kept.refl _ _⟩

/-! ### impl_pieces: function 43 -/
def impl_pieces.l0 : Nat → List (S34) → ByteArray → Option ((List (S34)))
 | 0, _, _ => none
 | k + 1, x3, x4 => if x4.toList = ([] : List UInt8) then ((slices_Clip_Piece.f x3).bind fun t234 => (some t234)) else ((impl_piece.f x4).bind fun bt237 => (if x3.length < 4398046511104 then (if 0 ≤ bt237.1 then (if bt237.1 ≤ (x4.size : Int) then (impl_pieces.l0 k (x3 ++ [(⟨bt237.1, bt237.2.1, (⟨bt237.2.2.1, bt237.2.2.2⟩ : S32)⟩ : S34)]) (x4.extract (bt237.1 : Int).toNat x4.size)) else (none)) else (none)) else (none)))
def impl_pieces.f (k : Nat) (a0 : ByteArray) : Option ((List (S34))) := (impl_held.f k a0).bind fun t233 => (if 0 ≤ (wrap64 ((a0.size : Int) - t233)) then (if (wrap64 ((a0.size : Int) - t233)) ≤ (a0.size : Int) then (impl_pieces.l0 k (([] : List (S34))) (a0.extract 0 ((wrap64 ((a0.size : Int) - t233)) : Int).toNat)) else (none)) else (none))
theorem impl_pieces.mono_l : ∀ k, (∀ y0 y1, LeO (impl_pieces.l0 k y0 y1) (impl_pieces.l0 (k + 1) y0 y1))
 | 0 => fun _ _ r h => by simp [impl_pieces.l0] at h
 | k + 1 => by
  have ih0:=impl_pieces.mono_l k
  ·intro y0 y1
   unfold impl_pieces.l0
   repeat' first
   | (with_reducible exact ih0 _ _)
   | (with_reducible exact impl_held.mono _ _)
   | (with_reducible exact LeO.refl _)
   | (with_reducible exact LeO.none _)
   | (with_reducible refine LeO.ite ?_ ?_)
   | (with_reducible refine LeO.bind ?_ (fun _ => ?_))
   | exact ih0 _ _
   | exact impl_held.mono _ _
   | exact LeO.none _
   | refine LeO.ite ?_ ?_
   | refine LeO.bind ?_ (fun _ => ?_)
theorem impl_pieces.mono : ∀ a0 k, LeO (impl_pieces.f k a0) (impl_pieces.f (k + 1) a0) := by
 intro a0 k
 have ih0:=impl_pieces.mono_l k
 unfold impl_pieces.f
 repeat' first
   | (with_reducible exact ih0 _ _)
   | (with_reducible exact impl_held.mono _ _)
   | (with_reducible exact LeO.refl _)
   | (with_reducible exact LeO.none _)
   | (with_reducible refine LeO.ite ?_ ?_)
   | (with_reducible refine LeO.bind ?_ (fun _ => ?_))
   | exact ih0 _ _
   | exact impl_held.mono _ _
   | exact LeO.none _
   | refine LeO.ite ?_ ?_
   | refine LeO.bind ?_ (fun _ => ?_)
set_option maxHeartbeats 8000000 in
set_option maxRecDepth 100000 in
theorem impl_pieces.calls (k : Nat) (a0 : ByteArray) (r : List (S34)) (w : World) (hG : GV w) (h : impl_pieces.f k a0 = some r) :
  Calls Tryd.prog 43 #[.string a0] w fun e w'=>∃ v0_ : Value,e = .returned (v0_) ∧ Kd.R k34 34 w' w.heap.size (fun _=>True) v0_ r ∧ Below w.heap.size w w':=by
 have hu34:=Tryd.underlying34
 have HG:=m_ hG
 clear hG
 have HB:=m_ (Below.refl w.heap.size w)
 have H : ((impl_held.f k a0).bind fun t233=>(if 0 ≤ (wrap64 ((a0.size : Int) - t233)) then (if (wrap64 ((a0.size : Int) - t233)) ≤ (a0.size : Int) then (impl_pieces.l0 k (([] : List (S34))) (a0.extract 0 ((wrap64 ((a0.size : Int) - t233)) : Int).toNat)) else (none)) else (none))) = some r:=h
 clear h
 obtain ⟨y230,hy230⟩ : ∃ y_ : List (S34),y_ = (([] : List (S34))):=⟨_,rfl⟩
 replace H : ((impl_held.f k a0).bind fun t233=>(if 0 ≤ (wrap64 ((a0.size : Int) - t233)) then (if (wrap64 ((a0.size : Int) - t233)) ≤ (a0.size : Int) then (impl_pieces.l0 k y230 (a0.extract 0 ((wrap64 ((a0.size : Int) - t233)) : Int).toNat)) else (none)) else (none))) = some r:=by first|(rw [hy230];with_reducible exact H)|(have H2_:=(Option.bind_some _ _).symm.trans H;rw [hy230];with_reducible exact H2_)|(have H2_:=(Option.bind_some _ _).symm.trans H;with_reducible exact H2_)|with_reducible exact H|(rw [hy230];exact H)|exact H
 have Ny230:=m_ hy230
 clear hy230
 replace H:=Option.bind_eq_some_iff.mp H
 obtain ⟨t233,A20,H⟩:=H
 replace H : (if 0 ≤ (wrap64 ((a0.size : Int) - t233)) then (if (wrap64 ((a0.size : Int) - t233)) ≤ (a0.size : Int) then (impl_pieces.l0 k y230 (a0.extract 0 ((wrap64 ((a0.size : Int) - t233)) : Int).toNat)) else (none)) else (none)) = some r:=H
 have A2:=m_ A20
 clear A20
 obtain ⟨ji3,hji3⟩ : ∃ j_ : Int,(wrap64 ((a0.size : Int) - t233)) = j_:=⟨_,rfl⟩
 replace H : (if 0 ≤ (ji3) then (if (ji3) ≤ (a0.size : Int) then (impl_pieces.l0 k y230 (a0.extract 0 ((ji3) : Int).toNat)) else (none)) else (none)) = some r:=by first|(rw [hji3] at H;exact H)|(simp only [hji3] at H ⊢;exact H)
 (try rw [hji3] at A2)
 have hji3w : (IntKind.i64.wrap ((a0.size : Int) - t233)) = ji3:=(i64_w _).trans hji3
 by_cases c4 : 0 ≤ (ji3)
 ·rw [if_pos c4] at H
  have c4b0:=eq_true c4
  have c4b1 : decide (0 ≤ (ji3)) = true:=decide_eq_true c4
  clear c4
  by_cases c5 : (ji3) ≤ (a0.size : Int)
  ·rw [if_pos c5] at H
   have c5b0:=eq_true c5
   have c5b1 : decide ((ji3) ≤ (a0.size : Int)) = true:=decide_eq_true c5
   clear c5
   have H':=m_ H
   clear H
   go_enter Tryd.func43,Tryd.ntmps43
   go_wp2_with (first|((with_reducible refine gate_dst (N:=6) rfl ?_);refine Kd.R_lit k34 _ 34 ?hg (N:=6) ?hd (xs:=([] : List (S34))) (inner:=[]) (ok:=fun _=>True) (okp:=fun _=>True) ?hr ?hp (fun _ hk=>hk) trivial (Below.refl _ _) (Nat.le_refl _) (by simp) ?_;(case hd=>rfl);(case hg=>rfl);(case hr=>first|(go_simp;done)|(go_simp;rfl));(case hp=>exact (Reps.none _ _));intro v231 w6 ho7 hb hg_ hnew_;clear hg_ hnew_;(first|rw [← Ny230.out] at ho7|(simp only [Int.reduceToNat] at ho7;rw [← Ny230.out] at ho7));have n0_:=m_ (Kd.R_lower ho7 (l6_ (by repeat (first|(with_reducible first|exact HB.out|apply l1_|apply l2_|apply l3_)|exact HB.out))));have n1_:=m_ (l5_ (by repeat (first|(with_reducible first|exact HB.out|apply l1_|apply l2_|apply l3_)|exact HB.out)) hb);clear HB;have HO232:=n0_;have HB:=n1_;clear n0_ n1_;clear hb ho7)|((with_reducible refine gate_callee (f:=54) rfl ?_);refine goesL_ (some 11) rfl rfl Tryd.func54 (by kernel_rfl) rfl #[.string a0] rfl (by (try simp only [List.map_toArray,List.map_cons,List.map_nil]);first|done|rfl|(simp only [List.length_drop,List.length_take];rfl)) ?_;(with_reducible refine (impl_held.calls k a0 t233 _ A2.out).mono ?_);rintro e w8 ⟨rfl,hb⟩;refine ⟨_,rfl,?_⟩;have n0_:=m_ (Kd.R_below (by (with_reducible repeat (first|apply Kd.R_alloc|apply Kd.R_drewN|apply Kd.R_drew));exact HO232.out) hb);have n1_:=m_ (l5_ (by repeat (first|(with_reducible first|exact HB.out|apply l1_|apply l2_|apply l3_)|exact HB.out)) hb);clear HO232;clear HB;have HO232:=n0_;have HB:=n1_;clear n0_ n1_;(try clear hb);(try clear hb2);(try clear hk);(try clear hi)))
   go_loopg [3,4] k (fun kq v3 v4 w'=>∃ (x3_1 : List (S34)) (x4_1 : ByteArray),v4 = .string x4_1 ∧ Aside0 (impl_pieces.l0 kq x3_1 x4_1 = some r) ∧ Aside0 (kq ≤ k) ∧ Aside0 (Kd.R k34 34 w' w.heap.size (fun _=>True) v3 x3_1) ∧ Aside0 (Below w.heap.size w w'))
   case atStart=>exact ⟨(y230),(a0.extract 0 ((ji3) : Int).toNat),(by first|rfl|(simp;done)|(simp only [← hji3] <;> (first|rfl|simp))|(simp [*];done)),H',⟨Nat.le_refl _⟩,⟨by (with_reducible repeat (first|apply Kd.R_alloc|apply Kd.R_drewN|apply Kd.R_drew));exact HO232.out⟩,⟨by repeat (first|(with_reducible first|exact HB.out|apply l1_|apply l2_|apply l3_)|exact HB.out)⟩⟩
   case round =>
    clear H'
    try clear p2
    try clear c4
    try clear c4b0
    try clear c4b1
    try clear c5
    try clear c5b0
    try clear c5b1
    try clear p6
    obtain ⟨x3_1,x4_1,rfl,HA,HK1,HO_3,HB⟩:=hrel
    cases gk with
    | zero => exact absurd HA.out (by simp [impl_pieces.l0])
    | succ k1 =>
     have H:=HA.out
     clear HA
     simp only [impl_pieces.l0] at H
     by_cases c9 : x4_1.toList = ([] : List UInt8)
     ·rw [if_pos c9] at H
      have c9b0 : x4_1.toList.isEmpty = true:=by simpa using c9
      have c9b1 : (x4_1.toList == ([] : List UInt8)) = true:=beq_iff_eq.mpr c9
      have c9b2 : (x4_1.toList != ([] : List UInt8)) = false:=bne_eq_false_iff_eq.mpr c9
      clear c9
      replace H:=Option.bind_eq_some_iff.mp H
      obtain ⟨t234,A100,H⟩:=H
      replace H : (some t234) = some r:=H
      have A10:=m_ A100
      clear A100
      obtain rfl:=Option.some.inj H
      obtain ⟨Ao11,co11,eo11⟩:=Kd.R_slice HO_3.out
      subst eo11
      go_wp2_with (first|((with_reducible refine gate_callee (f:=72) rfl ?_);refine goesL_ (some 27) rfl rfl Tryd.func72 (by kernel_rfl) rfl #[.slice Ao11 x3_1.length co11] rfl (by (try simp only [List.map_toArray,List.map_cons,List.map_nil]);first|done|rfl|(simp only [List.length_drop,List.length_take];rfl)) ?_;(with_reducible refine (slices_Clip_Piece.calls (fun k_=>some k_ = (.slice Ao11 x3_1.length co11 : Value).ownBlock) (.slice Ao11 x3_1.length co11) x3_1 t234 w _ ?side1 ?side2 A10.out).mono ?_);(case side1=>repeat (first|(with_reducible first|exact HB.out|apply l1_|apply l2_|apply l3_)|exact HB.out));(case side2=>exact Kd.R_tight rfl HO_3.out);rintro e w12 ⟨v235,rfl,ho0,hb,hkp⟩;refine ⟨_,rfl,?_⟩;have n0_:=m_ (Kd.R_mono (ok':=fun k_=>True) ho0 (fun k_ hk_=>trivial));have n1_:=m_ (hb);clear HB;clear HO_3;have HO236:=n0_;have HB:=n1_;clear n0_ n1_;(try clear hb);(try clear hkp);(try clear ho0)))
      go_ret
      exact ⟨_,by first|rfl|(simp [e1_,e2_] <;> rfl)|(simp only [← hji3];first|rfl|(simp [e1_,e2_] <;> rfl))|(simp [*,e1_,e2_] <;> rfl)|(simp [e1_,e2_,pk_empty1,pk_empty2];done)|(simp [*,e1_,e2_,pk_empty1,pk_empty2];done),by (with_reducible repeat (first|apply Kd.R_alloc|apply Kd.R_drewN|apply Kd.R_drew));exact HO236.out,by repeat (first|(with_reducible first|exact HB.out|apply l1_|apply l2_|apply l3_)|exact HB.out)⟩
     ·rw [if_neg c9] at H
      have c9b0 : x4_1.toList.isEmpty = false:=by simpa using c9
      have c9b1 : (x4_1.toList == ([] : List UInt8)) = false:=beq_eq_false_iff_ne.mpr c9
      have c9b2 : (x4_1.toList != ([] : List UInt8)) = true:=bne_iff_ne.mpr c9
      replace H:=Option.bind_eq_some_iff.mp H
      obtain ⟨⟨t237,t238,t239,t240⟩,A130,H⟩:=H
      replace H : (if x3_1.length < 4398046511104 then (if 0 ≤ t237 then (if t237 ≤ (x4_1.size : Int) then (impl_pieces.l0 k1 (x3_1 ++ [(⟨t237,t238,(⟨t239,t240⟩ : S32)⟩ : S34)]) (x4_1.extract (t237 : Int).toNat x4_1.size)) else (none)) else (none)) else (none)) = some r:=H
      have A13:=m_ A130
      clear A130
      by_cases c14 : x3_1.length < 4398046511104
      ·rw [if_pos c14] at H
       have LMc14:=m_ c14
       clear c14
       obtain ⟨y242,hy242⟩ : ∃ y_ : List (S34),y_ = (x3_1 ++ [(⟨t237,t238,(⟨t239,t240⟩ : S32)⟩ : S34)]):=⟨_,rfl⟩
       replace H : (if 0 ≤ t237 then (if t237 ≤ (x4_1.size : Int) then (impl_pieces.l0 k1 y242 (x4_1.extract (t237 : Int).toNat x4_1.size)) else (none)) else (none)) = some r:=by first|(rw [hy242];with_reducible exact H)|(have H2_:=(Option.bind_some _ _).symm.trans H;rw [hy242];with_reducible exact H2_)|(have H2_:=(Option.bind_some _ _).symm.trans H;with_reducible exact H2_)|with_reducible exact H|(rw [hy242];exact H)|exact H
       have Ny242:=m_ hy242
       clear hy242
       by_cases c15 : 0 ≤ t237
       ·rw [if_pos c15] at H
        have c15b0:=eq_true c15
        have c15b1 : decide (0 ≤ t237) = true:=decide_eq_true c15
        clear c15
        by_cases c16 : t237 ≤ (x4_1.size : Int)
        ·rw [if_pos c16] at H
         have c16b0:=eq_true c16
         have c16b1 : decide (t237 ≤ (x4_1.size : Int)) = true:=decide_eq_true c16
         clear c16
         have H':=m_ H
         clear H
         go_wp2_with (first|((with_reducible refine gate_callee (f:=71) rfl ?_);refine goesL_ (some 17) rfl rfl Tryd.func71 (by kernel_rfl) rfl #[.string x4_1] rfl (by (try simp only [List.map_toArray,List.map_cons,List.map_nil]);first|done|rfl|(simp only [List.length_drop,List.length_take];rfl)) ?_;(with_reducible refine (impl_piece.calls x4_1 t237 t238 t239 t240 _ ?side1 A13.out).mono ?_);(case side1=>first|exact HG.out|exact GV_below HG.out (by repeat (first|(with_reducible first|exact HB.out|apply l1_|apply l2_|apply l3_)|exact HB.out)));rintro e w17 ⟨rfl,hb⟩;refine ⟨_,rfl,?_⟩;have n0_:=m_ (Kd.R_below (by (with_reducible repeat (first|apply Kd.R_alloc|apply Kd.R_drewN|apply Kd.R_drew));exact HO_3.out) hb);have n1_:=m_ (l5_ (by repeat (first|(with_reducible first|exact HB.out|apply l1_|apply l2_|apply l3_)|exact HB.out)) hb);clear HO_3;clear HB;have HO_3:=n0_;have HB:=n1_;clear n0_ n1_;(try clear hb);(try clear hb2);(try clear hk);(try clear hi))|((with_reducible refine gate_dst (N:=5) rfl ?_);refine box_event ?hg (N:=5) ?hd (cs:=#[.int .i64 0,.bool false,.int .i64 0,.int .i64 0]) (t:=34) ?hr ?_;(case hd=>rfl);(case hg=>rfl);(case hr=>first|(go_simp;done)|(go_simp;rfl));intro gb241 hg w18 hbox hb;have n0_:=m_ (Kd.R_below (Kd.R_elderB (by (with_reducible repeat (first|apply Kd.R_alloc|apply Kd.R_drewN|apply Kd.R_drew));exact HO_3.out) gb241 (Nat.le_of_eq hg.symm)) hb);have n1_:=m_ (l5_ (by repeat (first|(with_reducible first|exact HB.out|apply l1_|apply l2_|apply l3_)|exact HB.out)) hb);have n2_:=m_ (hbox);have n3_:=m_ ((by rw [hg];exact (l6_ (by repeat (first|(with_reducible first|exact HB.out|apply l1_|apply l2_|apply l3_)|exact HB.out))) : w.heap.size ≤ gb241));have n4_:=m_ ((by rw [hg];exact (l6_ (by repeat (first|(with_reducible first|exact HB.out|apply l1_|apply l2_|apply l3_)|exact HB.out))) : w.heap.size ≤ gb241));clear HO_3;clear HB;have HO_3:=n0_;have HB:=n1_;have BK241:=n2_;have GW241:=n3_;have GE241:=n4_;clear n0_ n1_ n2_ n3_ n4_;clear hb hbox hg;have hcz19_0 : w18.cell? ⟨gb241,0,none⟩ = some (.int .i64 0):=(c_ BK241.out 0).trans rfl;have hcz19_1 : w18.cell? ⟨gb241,1,none⟩ = some (.bool false):=(c_ BK241.out 1).trans rfl;have hcz19_2 : w18.cell? ⟨gb241,2,none⟩ = some (.int .i64 0):=(c_ BK241.out 2).trans rfl;have hcz19_3 : w18.cell? ⟨gb241,3,none⟩ = some (.int .i64 0):=(c_ BK241.out 3).trans rfl;have hfz19_0:=f_ BK241.out 0;have hfz19_1:=f_ BK241.out 1;have hfz19_2:=f_ BK241.out 2;have hfz19_3:=f_ BK241.out 3)|((with_reducible refine gate_builtin (b:=.append) (xs:=#[.tmp 18,.tmp 20]) rfl ?_);at_builtin;refine Kd.R_append k34 (w0:=w) w.heap.size rfl (.tmp 18) (.tmp 20) 22 34 (.agg #[(.int .i64 0),(.bool false),(.int .i64 0),(.int .i64 0)]) 32 rfl Tryd.underlying22 info34 rfl (by decide) (by omega) u3 x3_1 (⟨t237,t238,(⟨t239,t240⟩ : S32)⟩ : S34) [.int .i64 t237,.bool t238,.int .i64 t239,.int .i64 t240] (fun k_=>k_ ≠ gb241) (fun _=>False) rfl (by first|(go_simp;done)|(go_simp;rfl)) ?aP (fun _ hk=>hk.elim) ?aF ?aO ?aB ?aS ?aL ?_;(case aP=>exact k34_mkM _ _ _ (⟨t237,t238,(⟨t239,t240⟩ : S32)⟩ : S34));(case aB=>exact (by repeat (first|(with_reducible first|exact HB.out|apply l1_|apply l2_|apply l3_|refine l4_ ?_ GE241.out)|exact HB.out)));(case aF=>exact (fun k_ hk=>Kd.freshB (g:=gb241) (o:=.cells #[.int .i64 t237,.bool t238,.int .i64 t239,.int .i64 t240] 34 (0,0)) (by (with_reducible repeat first|apply b1_|apply b2_|apply b3_);refine blk_put (cs:=#[.int .i64 t237,.bool t238,.int .i64 t239,.int .i64 0]) ?_ 3 _ rfl;(with_reducible repeat first|apply b1_|apply b2_|apply b3_);refine blk_put (cs:=#[.int .i64 t237,.bool t238,.int .i64 0,.int .i64 0]) ?_ 2 _ rfl;(with_reducible repeat first|apply b1_|apply b2_|apply b3_);refine blk_put (cs:=#[.int .i64 t237,.bool false,.int .i64 0,.int .i64 0]) ?_ 1 _ rfl;(with_reducible repeat first|apply b1_|apply b2_|apply b3_);refine blk_put (cs:=#[.int .i64 0,.bool false,.int .i64 0,.int .i64 0]) ?_ 0 _ rfl;(with_reducible repeat first|apply b1_|apply b2_|apply b3_);exact BK241.out) k_ hk));(case aO=>exact (by (with_reducible repeat (first|apply Kd.R_alloc|apply Kd.R_drewN|apply Kd.R_drew));exact Kd.R_mono (Kd.R_far (p:=⟨gb241,3,none⟩) (Kd.R_far (p:=⟨gb241,2,none⟩) (Kd.R_far (p:=⟨gb241,1,none⟩) (Kd.R_far (p:=⟨gb241,0,none⟩) (Kd.R_mono HO_3.out (fun k_ hk=>(⟨hk,hk.2⟩ : _ ∧ k_ ≠ gb241))) (fun _ hk=>hk.2) (.int .i64 t237)) (fun _ hk=>hk.2) (.bool t238)) (fun _ hk=>hk.2) (.int .i64 t239)) (fun _ hk=>hk.2) (.int .i64 t240)) (fun _ hk=>hk.1.2)));(case aS=>exact (l6_ (by repeat (first|(with_reducible first|exact HB.out|apply l1_|apply l2_|apply l3_|refine l4_ ?_ GE241.out)|exact HB.out))));(case aL=>have:=LMc14.out;omega);intro v243 w20 ho hb hg hat;rw [← Ny242.out] at ho;have n0_:=m_ (blk_grown (g:=gb241) (o:=.cells #[.int .i64 t237,.bool t238,.int .i64 t239,.int .i64 t240] 34 (0,0)) (by (with_reducible repeat first|apply b1_|apply b2_|apply b3_);refine blk_put (cs:=#[.int .i64 t237,.bool t238,.int .i64 t239,.int .i64 0]) ?_ 3 _ rfl;(with_reducible repeat first|apply b1_|apply b2_|apply b3_);refine blk_put (cs:=#[.int .i64 t237,.bool t238,.int .i64 0,.int .i64 0]) ?_ 2 _ rfl;(with_reducible repeat first|apply b1_|apply b2_|apply b3_);refine blk_put (cs:=#[.int .i64 t237,.bool false,.int .i64 0,.int .i64 0]) ?_ 1 _ rfl;(with_reducible repeat first|apply b1_|apply b2_|apply b3_);refine blk_put (cs:=#[.int .i64 0,.bool false,.int .i64 0,.int .i64 0]) ?_ 0 _ rfl;(with_reducible repeat first|apply b1_|apply b2_|apply b3_);exact BK241.out) hg (Kd.R_away HO_3.out (fun _ hk=>hk.2)));have n1_:=m_ (hb);have n2_:=m_ (ho);clear BK241;clear HB;clear HO_3;have BK241:=n0_;have HB:=n1_;have HO244:=n2_;clear n0_ n1_ n2_;clear ho hb hg hat;have hcz21_0 : w20.cell? ⟨gb241,0,none⟩ = some (.int .i64 t237):=(c_ BK241.out 0).trans rfl;have hcz21_1 : w20.cell? ⟨gb241,1,none⟩ = some (.bool t238):=(c_ BK241.out 1).trans rfl;have hcz21_2 : w20.cell? ⟨gb241,2,none⟩ = some (.int .i64 t239):=(c_ BK241.out 2).trans rfl;have hcz21_3 : w20.cell? ⟨gb241,3,none⟩ = some (.int .i64 t240):=(c_ BK241.out 3).trans rfl;have hfz21_0:=f_ BK241.out 0;have hfz21_1:=f_ BK241.out 1;have hfz21_2:=f_ BK241.out 2;have hfz21_3:=f_ BK241.out 3))
         go_roundg k1
         case measure=>have:=HK1.out;omega
         case rel=>exact ⟨(y242),(x4_1.extract (t237 : Int).toNat x4_1.size),(by first|rfl|(simp;done)|(simp [*];done)),H',⟨by have:=HK1.out;omega⟩,⟨by (with_reducible repeat (first|apply Kd.R_alloc|apply Kd.R_drewN|apply Kd.R_drew));exact Kd.R_mono HO244.out (fun _ hk=>trivial)⟩,⟨by repeat (first|(with_reducible first|exact HB.out|apply l1_|apply l2_|apply l3_|refine l4_ ?_ GE241.out)|exact HB.out)⟩⟩
        ·rw [if_neg c16] at H
         exact absurd H (by simp)
       ·rw [if_neg c15] at H
        exact absurd H (by simp)
      ·rw [if_neg c14] at H
       exact absurd H (by simp)
  ·rw [if_neg c5] at H
   exact absurd H (by simp)
 ·rw [if_neg c4] at H
  exact absurd H (by simp)

/-! ### impl_TextPieces: function 15 -/
def impl_TextPieces.f (k : Nat) (a0 : ByteArray) : Option ((List (S34))) := (impl_TextOk.f a0).bind fun t245 => (if t245 = true then ((impl_pieces.f k a0).bind fun t246 => (some t246)) else (some ([] : List (S34))))
theorem impl_TextPieces.mono : ∀ a0 k, LeO (impl_TextPieces.f k a0) (impl_TextPieces.f (k + 1) a0) := by
 intro a0 k
 unfold impl_TextPieces.f
 repeat' first
   | (with_reducible exact impl_pieces.mono _ _)
   | (with_reducible exact LeO.refl _)
   | (with_reducible exact LeO.none _)
   | (with_reducible refine LeO.ite ?_ ?_)
   | (with_reducible refine LeO.bind ?_ (fun _ => ?_))
   | exact impl_pieces.mono _ _
   | exact LeO.none _
   | refine LeO.ite ?_ ?_
   | refine LeO.bind ?_ (fun _ => ?_)
set_option maxHeartbeats 8000000 in
set_option maxRecDepth 100000 in
theorem impl_TextPieces.calls (k : Nat) (a0 : ByteArray) (r : List (S34)) (w : World) (hG : GV w) (h : impl_TextPieces.f k a0 = some r) :
  Calls Tryd.prog 15 #[.string a0] w fun e w'=>∃ v0_ : Value,e = .returned (v0_) ∧ Kd.R k34 34 w' w.heap.size (fun _=>True) v0_ r ∧ Below w.heap.size w w':=by
 have HG:=m_ hG
 clear hG
 have HB:=m_ (Below.refl w.heap.size w)
 have H : ((impl_TextOk.f a0).bind fun t245=>(if t245 = true then ((impl_pieces.f k a0).bind fun t246=>(some t246)) else (some ([] : List (S34))))) = some r:=h
 clear h
 replace H:=Option.bind_eq_some_iff.mp H
 obtain ⟨t245,A20,H⟩:=H
 replace H : (if t245 = true then ((impl_pieces.f k a0).bind fun t246=>(some t246)) else (some ([] : List (S34)))) = some r:=H
 have A2:=m_ A20
 clear A20
 by_cases c3 : t245 = true
 ·subst c3
  have H1 : ((impl_pieces.f k a0).bind fun t246=>(some t246)) = some r:=by rw [if_pos rfl] at H;exact H
  clear H
  have H:=H1
  clear H1
  replace H:=Option.bind_eq_some_iff.mp H
  obtain ⟨t246,A40,H⟩:=H
  replace H : (some t246) = some r:=H
  have A4:=m_ A40
  clear A40
  obtain rfl:=Option.some.inj H
  go_enter Tryd.func15,Tryd.ntmps15
  go_wp2_with (first|((with_reducible refine gate_callee (f:=33) rfl ?_);refine goesL_ (some 4) rfl rfl Tryd.func33 (by kernel_rfl) rfl #[.string a0] rfl (by (try simp only [List.map_toArray,List.map_cons,List.map_nil]);first|done|rfl|(simp only [List.length_drop,List.length_take];rfl)) ?_;(with_reducible refine (impl_TextOk.calls a0 true _ A2.out).mono ?_);rintro e w5 ⟨rfl,hb⟩;refine ⟨_,rfl,?_⟩;have n0_:=m_ (l5_ (by repeat (first|(with_reducible first|exact HB.out|apply l1_|apply l2_|apply l3_)|exact HB.out)) hb);clear HB;have HB:=n0_;clear n0_;(try clear hb);(try clear hb2);(try clear hk);(try clear hi))|((with_reducible refine gate_callee (f:=43) rfl ?_);refine goesL_ (some 7) rfl rfl Tryd.func43 (by kernel_rfl) rfl #[.string a0] rfl (by (try simp only [List.map_toArray,List.map_cons,List.map_nil]);first|done|rfl|(simp only [List.length_drop,List.length_take];rfl)) ?_;(with_reducible refine (impl_pieces.calls k a0 t246 _ ?side1 A4.out).mono ?_);(case side1=>first|exact HG.out|exact GV_below HG.out (by repeat (first|(with_reducible first|exact HB.out|apply l1_|apply l2_|apply l3_)|exact HB.out)));rintro e w6 ⟨v247,rfl,ho0,hb⟩;refine ⟨_,rfl,?_⟩;have n0_:=m_ (Kd.R_lower ho0 (l6_ (by repeat (first|(with_reducible first|exact HB.out|apply l1_|apply l2_|apply l3_)|exact HB.out))));have n1_:=m_ (l5_ (by repeat (first|(with_reducible first|exact HB.out|apply l1_|apply l2_|apply l3_)|exact HB.out)) hb);clear HB;have HO248:=n0_;have HB:=n1_;clear n0_ n1_;(try clear hb);(try clear hb2);(try clear hk);(try clear hi);(try clear ho0)))
  go_ret
  exact ⟨_,by first|rfl|(simp [e1_,e2_] <;> rfl)|(simp [*,e1_,e2_] <;> rfl)|(simp [e1_,e2_,pk_empty1,pk_empty2];done)|(simp [*,e1_,e2_,pk_empty1,pk_empty2];done),by (with_reducible repeat (first|apply Kd.R_alloc|apply Kd.R_drewN|apply Kd.R_drew));exact HO248.out,by repeat (first|(with_reducible first|exact HB.out|apply l1_|apply l2_|apply l3_)|exact HB.out)⟩
 ·replace c3:=Bool.eq_false_iff.mpr c3
  subst c3
  have H1 : (some ([] : List (S34))) = some r:=by rw [if_neg (show ¬ (false = true) by decide)] at H;exact H
  clear H
  have H:=H1
  clear H1
  obtain rfl:=Option.some.inj H
  go_enter Tryd.func15,Tryd.ntmps15
  go_wp2_with (first|((with_reducible refine gate_callee (f:=33) rfl ?_);refine goesL_ (some 4) rfl rfl Tryd.func33 (by kernel_rfl) rfl #[.string a0] rfl (by (try simp only [List.map_toArray,List.map_cons,List.map_nil]);first|done|rfl|(simp only [List.length_drop,List.length_take];rfl)) ?_;(with_reducible refine (impl_TextOk.calls a0 false _ A2.out).mono ?_);rintro e w7 ⟨rfl,hb⟩;refine ⟨_,rfl,?_⟩;have n0_:=m_ (l5_ (by repeat (first|(with_reducible first|exact HB.out|apply l1_|apply l2_|apply l3_)|exact HB.out)) hb);clear HB;have HB:=n0_;clear n0_;(try clear hb);(try clear hb2);(try clear hk);(try clear hi)))
  go_ret
  exact ⟨_,by first|rfl|(simp [e1_,e2_] <;> rfl)|(simp [*,e1_,e2_] <;> rfl)|(simp [e1_,e2_,pk_empty1,pk_empty2];done)|(simp [*,e1_,e2_,pk_empty1,pk_empty2];done),by first|exact Kd.R_nil _ _ _ _ _|exact Kd.N_nil _ _ _ _ _|exact Kd.V_nil _ _ _ _ _|exact Kd.Q_nil _ _ _ _ _|exact Kd.S_nil _ _ _ _ _,by repeat (first|(with_reducible first|exact HB.out|apply l1_|apply l2_|apply l3_)|exact HB.out)⟩

end Go.Proofs.YtclhmoghkcnkmaaDoor.A
