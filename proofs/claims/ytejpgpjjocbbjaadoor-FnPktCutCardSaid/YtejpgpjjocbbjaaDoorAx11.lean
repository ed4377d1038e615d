-- Printed by myprint.py (wip/tools) out of the translation. Not trusted: Lean checks it.
import Derived.Test.YtejpgpjjocbbjaaDoorAx0
import Derived.Test.YtejpgpjjocbbjaaDoorAx8
import Derived.Test.YtejpgpjjocbbjaaDoorAx10
namespace Go.Proofs.YtejpgpjjocbbjaaDoor.A
open Go.RowKit Go.Proofs.YtejpgpjjocbbjaaDoorW.PrintWords Go.Proofs.YtejpgpjjocbbjaaDoorW.PrintLast Go.Proofs.YtejpgpjjocbbjaaDoorW.PrintMore
attribute [local go_sem] max2_int min2_int max_two min_two max_three min_three max_four min_four   -- for this text's walks alone
set_option linter.unusedVariables false
set_option linter.unusedSimpArgs false

/-! ### spec_DrawPktText: function 7 -/
def spec_DrawPktText.f (k : Nat) (l0 : List Int) : Option (Int × Int × Int × Int × Int × Int × ByteArray) := (spec_l6Open.f l0).bind fun bt196 => ((spec_l71Pkt.f k bt196.1 bt196.2).bind fun bt199 => (some (bt199.1, bt199.2.1, bt199.2.2.1, bt199.2.2.2.1, bt199.2.2.2.2.1, bt199.2.2.2.2.2.1, bt199.2.2.2.2.2.2.1)))
theorem spec_DrawPktText.mono : ∀ a0 k, LeO (spec_DrawPktText.f k a0) (spec_DrawPktText.f (k + 1) a0) := by
 intro a0 k
 unfold spec_DrawPktText.f
 repeat' first
   | (with_reducible exact spec_l71Pkt.mono _ _ _)
   | (with_reducible exact LeO.refl _)
   | (with_reducible exact LeO.none _)
   | (with_reducible refine LeO.ite ?_ ?_)
   | (with_reducible refine LeO.bind ?_ (fun _ => ?_))
   | exact spec_l71Pkt.mono _ _ _
   | exact LeO.none _
   | refine LeO.ite ?_ ?_
   | refine LeO.bind ?_ (fun _ => ?_)
set_option maxHeartbeats 8000000 in
set_option maxRecDepth 100000 in
theorem spec_DrawPktText.calls (k : Nat) (A0 : Option Addr) (c0 : Nat) (l0 : List Int) (r1 : Int) (r2 : Int) (r3 : Int) (r4 : Int) (r5 : Int) (r6 : Int) (r7 : ByteArray) (w : World) (hr0 : Kd.C (Kd.int .u8) w A0 l0.length l0) (hc0 : l0.length ≤ c0) (h : spec_DrawPktText.f k l0 = some (r1, r2, r3, r4, r5, r6, r7)) :
  Calls Tryd.prog 7 #[.slice A0 l0.length c0] w fun e w'=>e = .returned (.agg #[.int .i64 r1,.int .i64 r2,.int .i64 r3,.int .i64 r4,.int .i64 r5,.int .i64 r6,.string r7]) ∧ Below w.heap.size w w':=by
 have hu26:=Tryd.underlying26
 have HR0:=m_ hr0
 have HC0:=m_ hc0
 clear hr0 hc0
 have HB:=m_ (Below.refl w.heap.size w)
 have H : ((spec_l6Open.f l0).bind fun bt196=>((spec_l71Pkt.f k bt196.1 bt196.2).bind fun bt199=>(some (bt199.1,bt199.2.1,bt199.2.2.1,bt199.2.2.2.1,bt199.2.2.2.2.1,bt199.2.2.2.2.2.1,bt199.2.2.2.2.2.2.1)))) = some (r1,r2,r3,r4,r5,r6,r7):=h
 clear h
 replace H:=Option.bind_eq_some_iff.mp H
 obtain ⟨⟨t196,t197⟩,A20,H⟩:=H
 replace H : ((spec_l71Pkt.f k t196 t197).bind fun bt199=>(some (bt199.1,bt199.2.1,bt199.2.2.1,bt199.2.2.2.1,bt199.2.2.2.2.1,bt199.2.2.2.2.2.1,bt199.2.2.2.2.2.2.1))) = some (r1,r2,r3,r4,r5,r6,r7):=H
 have A2:=m_ A20
 clear A20
 replace H:=Option.bind_eq_some_iff.mp H
 obtain ⟨⟨t199,t200,t201,t202,t203,t204,t205,t206⟩,A30,H⟩:=H
 replace H : (some (t199,t200,t201,t202,t203,t204,t205)) = some (r1,r2,r3,r4,r5,r6,r7):=H
 have A3:=m_ A30
 clear A30
 simp only [Option.some.injEq,Prod.mk.injEq] at H
 obtain ⟨rfl,rfl,rfl,rfl,rfl,rfl,rfl⟩:=H
 go_enter Tryd.func7,Tryd.ntmps7
 go_wp2_with (first|((with_reducible refine gate_dst (N:=2) rfl ?_);refine box_event ?hg (N:=2) ?hd (cs:=#[.int .i64 0,.int .i64 0,.int .i64 0,.int .i64 0,.int .i64 0,.int .i64 0,.string (⟨#[]⟩ : ByteArray)]) (t:=26) ?hr ?_;(case hd=>rfl);(case hg=>rfl);(case hr=>first|(go_simp;done)|(go_simp;rfl));intro gb195 hg w4 hbox hb;have n0_:=m_ (l5_ (by repeat (first|(with_reducible first|exact HB.out|apply l1_|apply l2_|apply l3_)|exact HB.out)) hb);have n1_:=m_ (hbox);have n2_:=m_ ((by rw [hg];exact (l6_ (by repeat (first|(with_reducible first|exact HB.out|apply l1_|apply l2_|apply l3_)|exact HB.out))) : w.heap.size ≤ gb195));have n3_:=m_ ((by rw [hg];exact (l6_ (by repeat (first|(with_reducible first|exact HB.out|apply l1_|apply l2_|apply l3_)|exact HB.out))) : w.heap.size ≤ gb195));clear HB;have HB:=n0_;have BK195:=n1_;have GW195:=n2_;have GE195:=n3_;clear n0_ n1_ n2_ n3_;clear hb hbox hg)|((with_reducible refine gate_callee (f:=16) rfl ?_);refine goesL_ (some 4) rfl rfl Tryd.func16 (by kernel_rfl) rfl #[.slice A0 l0.length c0] rfl (by (try simp only [List.map_toArray,List.map_cons,List.map_nil]);first|done|rfl|(simp only [List.length_drop,List.length_take];rfl)) ?_;(with_reducible refine (spec_l6Open.calls _ _ l0 t196 t197 w _ ?side1 ?side2 ?side3 A2.out).mono ?_);(case side1=>repeat (first|(with_reducible first|exact HB.out|apply l1_|apply l2_|apply l3_|refine l4_ ?_ GE195.out)|exact HB.out));(case side2=>exact HR0.out);(case side3=>exact HC0.out);rintro e w5 ⟨g198,rfl,hi,hb,hb2⟩;refine ⟨_,rfl,?_⟩;have n0_:=m_ (blk_below (g:=gb195) (o:=.cells #[.int .i64 0,.int .i64 0,.int .i64 0,.int .i64 0,.int .i64 0,.int .i64 0,.string (⟨#[]⟩ : ByteArray)] 26 (0,0)) (by (with_reducible repeat first|apply b1_|apply b2_|apply b3_);exact BK195.out) hb2);have n1_:=m_ (hb);have n2_:=m_ (hi);have n3_:=m_ (IsS62.ne_blk hi (blk_below (g:=gb195) (o:=.cells #[.int .i64 0,.int .i64 0,.int .i64 0,.int .i64 0,.int .i64 0,.int .i64 0,.string (⟨#[]⟩ : ByteArray)] 26 (0,0)) (by (with_reducible repeat first|apply b1_|apply b2_|apply b3_);exact BK195.out) hb2) (by decide));have n4_:=m_ (Ne.symm (IsS62.ne_blk hi (blk_below (g:=gb195) (o:=.cells #[.int .i64 0,.int .i64 0,.int .i64 0,.int .i64 0,.int .i64 0,.int .i64 0,.string (⟨#[]⟩ : ByteArray)] 26 (0,0)) (by (with_reducible repeat first|apply b1_|apply b2_|apply b3_);exact BK195.out) hb2) (by decide)));clear BK195;clear HB;have BK195:=n0_;have HB:=n1_;have HI198:=n2_;have NB198_195:=n3_;have NB195_198:=n4_;clear n0_ n1_ n2_ n3_ n4_;(try clear hb);(try clear hb2);(try clear hk);(try clear hi))|((with_reducible refine gate_callee (f:=15) rfl ?_);refine goesL_ (some 5) rfl rfl Tryd.func15 (by kernel_rfl) rfl #[.pointer (some ⟨g198,0,none⟩)] rfl (by (try simp only [List.map_toArray,List.map_cons,List.map_nil]);first|done|rfl|(simp only [List.length_drop,List.length_take];rfl)) ?_;(with_reducible refine (spec_l71Pkt.calls k g198 t196 t197 t199 t200 t201 t202 t203 t204 t205 t206 w _ ?side1 ?side2 A3.out).mono ?_);(case side1=>repeat (first|(with_reducible first|exact HI198.out|apply IsS62.alloc|apply IsS62.drewN|apply IsS62.drew|apply IsS62.set_1|refine IsS62.far ?_ NB198_195.out _)|exact HI198.out));(case side2=>repeat (first|(with_reducible first|exact HB.out|apply l1_|apply l2_|apply l3_|refine l4_ ?_ (IsS62.ge HI198.out)|refine l4_ ?_ GE195.out)|exact HB.out));rintro e w6 ⟨rfl,hi,hb,hk⟩;refine ⟨_,rfl,?_⟩;have n0_:=m_ (KeepBut.blk hk (g':=gb195) (o:=.cells #[.int .i64 0,.int .i64 0,.int .i64 0,.int .i64 0,.int .i64 0,.int .i64 0,.string (⟨#[]⟩ : ByteArray)] 26 (0,0)) (by (with_reducible repeat first|apply b1_|apply b2_|apply b3_);exact BK195.out) NB195_198.out (by simp));have n1_:=m_ (hb);have n2_:=m_ (hi);clear BK195;clear HB;clear HI198;have BK195:=n0_;have HB:=n1_;have HI198:=n2_;clear n0_ n1_ n2_;(try clear hb);(try clear hb2);(try clear hk);(try clear hi);have hnb7:=NB195_198.out;have hnc7:=NB198_195.out;have hcz8_0 : w6.cell? ⟨gb195,0,none⟩ = some (.int .i64 0):=(c_ BK195.out 0).trans rfl;have hcz8_1 : w6.cell? ⟨gb195,1,none⟩ = some (.int .i64 0):=(c_ BK195.out 1).trans rfl;have hcz8_2 : w6.cell? ⟨gb195,2,none⟩ = some (.int .i64 0):=(c_ BK195.out 2).trans rfl;have hcz8_3 : w6.cell? ⟨gb195,3,none⟩ = some (.int .i64 0):=(c_ BK195.out 3).trans rfl;have hcz8_4 : w6.cell? ⟨gb195,4,none⟩ = some (.int .i64 0):=(c_ BK195.out 4).trans rfl;have hcz8_5 : w6.cell? ⟨gb195,5,none⟩ = some (.int .i64 0):=(c_ BK195.out 5).trans rfl;have hcz8_6 : w6.cell? ⟨gb195,6,none⟩ = some (.string (⟨#[]⟩ : ByteArray)):=(c_ BK195.out 6).trans rfl;have hfz8_0:=f_ BK195.out 0;have hfz8_1:=f_ BK195.out 1;have hfz8_2:=f_ BK195.out 2;have hfz8_3:=f_ BK195.out 3;have hfz8_4:=f_ BK195.out 4;have hfz8_5:=f_ BK195.out 5;have hfz8_6:=f_ BK195.out 6))
 refine bodyPost_ret (results_cell_row rfl _ _ gb195 26 #[.int .i64 t199,.int .i64 t200,.int .i64 t201,.int .i64 t202,.int .i64 t203,.int .i64 t204,.string t205] (0,0) _ rfl (by (with_reducible repeat first|apply b1_|apply b2_|apply b3_);refine blk_put (cs:=#[.int .i64 t199,.int .i64 t200,.int .i64 t201,.int .i64 t202,.int .i64 t203,.int .i64 t204,.string (⟨#[]⟩ : ByteArray)]) ?_ 6 _ rfl;(with_reducible repeat first|apply b1_|apply b2_|apply b3_);refine blk_put (cs:=#[.int .i64 t199,.int .i64 t200,.int .i64 t201,.int .i64 t202,.int .i64 t203,.int .i64 0,.string (⟨#[]⟩ : ByteArray)]) ?_ 5 _ rfl;(with_reducible repeat first|apply b1_|apply b2_|apply b3_);refine blk_put (cs:=#[.int .i64 t199,.int .i64 t200,.int .i64 t201,.int .i64 t202,.int .i64 0,.int .i64 0,.string (⟨#[]⟩ : ByteArray)]) ?_ 4 _ rfl;(with_reducible repeat first|apply b1_|apply b2_|apply b3_);refine blk_put (cs:=#[.int .i64 t199,.int .i64 t200,.int .i64 t201,.int .i64 0,.int .i64 0,.int .i64 0,.string (⟨#[]⟩ : ByteArray)]) ?_ 3 _ rfl;(with_reducible repeat first|apply b1_|apply b2_|apply b3_);refine blk_put (cs:=#[.int .i64 t199,.int .i64 t200,.int .i64 0,.int .i64 0,.int .i64 0,.int .i64 0,.string (⟨#[]⟩ : ByteArray)]) ?_ 2 _ rfl;(with_reducible repeat first|apply b1_|apply b2_|apply b3_);refine blk_put (cs:=#[.int .i64 t199,.int .i64 0,.int .i64 0,.int .i64 0,.int .i64 0,.int .i64 0,.string (⟨#[]⟩ : ByteArray)]) ?_ 1 _ rfl;(with_reducible repeat first|apply b1_|apply b2_|apply b3_);refine blk_put (cs:=#[.int .i64 0,.int .i64 0,.int .i64 0,.int .i64 0,.int .i64 0,.int .i64 0,.string (⟨#[]⟩ : ByteArray)]) ?_ 0 _ rfl;(with_reducible repeat first|apply b1_|apply b2_|apply b3_);exact BK195.out) Tryd.underlying26 rfl (by kernel_rfl)) rfl ?_
 exact ⟨by first|rfl|(simp [e1_,e2_] <;> rfl)|(simp [*,e1_,e2_] <;> rfl)|(simp [e1_,e2_,pk_empty1,pk_empty2];done)|(simp [*,e1_,e2_,pk_empty1,pk_empty2];done),by repeat (first|(with_reducible first|exact HB.out|apply l1_|apply l2_|apply l3_|refine l4_ ?_ (IsS62.ge HI198.out)|refine l4_ ?_ GE195.out)|exact HB.out)⟩

end Go.Proofs.YtejpgpjjocbbjaaDoor.A
