-- Printed by myprint.py (wip/tools) out of the translation. Not trusted: Lean checks it.
import Derived.Test.YtclhmoghkcnkmaaDoorAx0
import Derived.Test.YtclhmoghkcnkmaaDoorAx3
import Derived.Test.YtclhmoghkcnkmaaDoorAx4
import Derived.Test.YtclhmoghkcnkmaaDoorAx6
namespace Go.Proofs.YtclhmoghkcnkmaaDoor.A
open Go.RowKit Go.Proofs.YtclhmoghkcnkmaaDoorW.PrintWords Go.Proofs.YtclhmoghkcnkmaaDoorW.PrintLast Go.Proofs.YtclhmoghkcnkmaaDoorW.PrintMore
attribute [local go_sem] max2_int min2_int max_two min_two max_three min_three max_four min_four   -- for this text's walks alone
set_option linter.unusedVariables false
set_option linter.unusedSimpArgs false

/-! ### laws_toEnd: function 29 -/
def laws_toEnd.f (a0_0 : Int) (a0_1 : Int) : Option (Int × Int) := some (a0_0, a0_1)
set_option maxHeartbeats 8000000 in
set_option maxRecDepth 100000 in
theorem laws_toEnd.calls (a0_0 : Int) (a0_1 : Int) (r1 : Int) (r2 : Int) (w : World) (h : laws_toEnd.f a0_0 a0_1 = some (r1, r2)) :
  Calls Tryd.prog 29 #[.agg #[.int .i64 a0_0,.int .i64 a0_1]] w fun e w'=>e = .returned (.agg #[.int .i64 r1,.int .i64 r2]) ∧ Below w.heap.size w w':=by
 have hu40:=Tryd.underlying40
 have hu32:=Tryd.underlying32
 have HB:=m_ (Below.refl w.heap.size w)
 have H : (some (a0_0,a0_1)) = some (r1,r2):=h
 clear h
 simp only [Option.some.injEq,Prod.mk.injEq] at H
 obtain ⟨rfl,rfl⟩:=H
 go_enter Tryd.func29,Tryd.ntmps29
 go_wp2_with (first|((with_reducible refine gate_dst (N:=1) rfl ?_);refine box_event ?hg (N:=1) ?hd (cs:=#[.int .i64 a0_0,.int .i64 a0_1]) (t:=40) ?hr ?_;(case hd=>rfl);(case hg=>rfl);(case hr=>first|(go_simp;done)|(go_simp;rfl));intro gb306 hg w2 hbox hb;have n0_:=m_ (l5_ (by repeat (first|(with_reducible first|exact HB.out|apply l1_|apply l2_|apply l3_)|exact HB.out)) hb);have n1_:=m_ (hbox);have n2_:=m_ ((by rw [hg];exact (l6_ (by repeat (first|(with_reducible first|exact HB.out|apply l1_|apply l2_|apply l3_)|exact HB.out))) : w.heap.size ≤ gb306));have n3_:=m_ ((by rw [hg];exact (l6_ (by repeat (first|(with_reducible first|exact HB.out|apply l1_|apply l2_|apply l3_)|exact HB.out))) : w.heap.size ≤ gb306));clear HB;have HB:=n0_;have BK306:=n1_;have GW306:=n2_;have GE306:=n3_;clear n0_ n1_ n2_ n3_;clear hb hbox hg)|((with_reducible refine gate_dst (N:=2) rfl ?_);refine box_event ?hg (N:=2) ?hd (cs:=#[.int .i64 0,.int .i64 0]) (t:=32) ?hr ?_;(case hd=>rfl);(case hg=>rfl);(case hr=>first|(go_simp;done)|(go_simp;rfl));intro gb307 hg w3 hbox hb;have n0_:=m_ (blk_below (g:=gb306) (o:=.cells #[.int .i64 a0_0,.int .i64 a0_1] 40 (0,0)) (by (with_reducible repeat first|apply b1_|apply b2_|apply b3_);exact BK306.out) hb);have n1_:=m_ (l5_ (by repeat (first|(with_reducible first|exact HB.out|apply l1_|apply l2_|apply l3_|refine l4_ ?_ GE306.out)|exact HB.out)) hb);have n2_:=m_ (hbox);have n3_:=m_ ((by rw [hg];exact (l6_ (by repeat (first|(with_reducible first|exact HB.out|apply l1_|apply l2_|apply l3_|refine l4_ ?_ GE306.out)|exact HB.out))) : w.heap.size ≤ gb307));have n4_:=n3_;have n5_:=m_ ((by rw [hg];exact Nat.ne_of_lt (blk_lt (g:=gb306) (o:=.cells #[.int .i64 a0_0,.int .i64 a0_1] 40 (0,0)) (by (with_reducible repeat first|apply b1_|apply b2_|apply b3_);exact BK306.out)) : gb306 ≠ gb307));have n6_:=m_ ((by rw [hg];exact Nat.ne_of_gt (blk_lt (g:=gb306) (o:=.cells #[.int .i64 a0_0,.int .i64 a0_1] 40 (0,0)) (by (with_reducible repeat first|apply b1_|apply b2_|apply b3_);exact BK306.out)) : gb307 ≠ gb306));clear BK306;clear HB;have BK306:=n0_;have HB:=n1_;have BK307:=n2_;have GW307:=n3_;have GE307:=n4_;have NB306_307:=n5_;have NB307_306:=n6_;clear n0_ n1_ n2_ n3_ n4_ n5_ n6_;clear hb hbox hg)|((with_reducible refine gate_dst (N:=3) rfl ?_);refine box_event ?hg (N:=3) ?hd (cs:=#[.int .i64 0,.int .i64 0]) (t:=32) ?hr ?_;(case hd=>rfl);(case hg=>rfl);(case hr=>first|(go_simp;done)|(go_simp;rfl));intro gb308 hg w4 hbox hb;have n0_:=m_ (blk_below (g:=gb306) (o:=.cells #[.int .i64 a0_0,.int .i64 a0_1] 40 (0,0)) (by (with_reducible repeat first|apply b1_|apply b2_|apply b3_);exact BK306.out) hb);have n1_:=m_ (blk_below (g:=gb307) (o:=.cells #[.int .i64 0,.int .i64 0] 32 (0,0)) (by (with_reducible repeat first|apply b1_|apply b2_|apply b3_);exact BK307.out) hb);have n2_:=m_ (l5_ (by repeat (first|(with_reducible first|exact HB.out|apply l1_|apply l2_|apply l3_|refine l4_ ?_ GE306.out|refine l4_ ?_ GE307.out)|exact HB.out)) hb);have n3_:=m_ (hbox);have n4_:=m_ ((by rw [hg];exact (l6_ (by repeat (first|(with_reducible first|exact HB.out|apply l1_|apply l2_|apply l3_|refine l4_ ?_ GE306.out|refine l4_ ?_ GE307.out)|exact HB.out))) : w.heap.size ≤ gb308));have n5_:=n4_;have n6_:=m_ ((by rw [hg];exact Nat.ne_of_lt (blk_lt (g:=gb306) (o:=.cells #[.int .i64 a0_0,.int .i64 a0_1] 40 (0,0)) (by (with_reducible repeat first|apply b1_|apply b2_|apply b3_);exact BK306.out)) : gb306 ≠ gb308));have n7_:=m_ n6_.out.symm;have n8_:=m_ ((by rw [hg];exact Nat.ne_of_lt (blk_lt (g:=gb307) (o:=.cells #[.int .i64 0,.int .i64 0] 32 (0,0)) (by (with_reducible repeat first|apply b1_|apply b2_|apply b3_);exact BK307.out)) : gb307 ≠ gb308));have n9_:=m_ n8_.out.symm;clear BK306;clear BK307;clear HB;have BK306:=n0_;have BK307:=n1_;have HB:=n2_;have BK308:=n3_;have GW308:=n4_;have GE308:=n5_;have NB306_308:=n6_;have NB308_306:=n7_;have NB307_308:=n8_;have NB308_307:=n9_;clear n0_ n1_ n2_ n3_ n4_ n5_ n6_ n7_ n8_ n9_;clear hb hbox hg;have hnb5:=NB306_307.out;have hnc5:=NB307_306.out;have hnb6:=NB306_308.out;have hnc6:=NB308_306.out;have hcz7_0 : w4.cell? ⟨gb306,0,none⟩ = some (.int .i64 a0_0):=(c_ BK306.out 0).trans rfl;have hcz7_1 : w4.cell? ⟨gb306,1,none⟩ = some (.int .i64 a0_1):=(c_ BK306.out 1).trans rfl;have hfz7_0:=f_ BK306.out 0;have hfz7_1:=f_ BK306.out 1;have hnb8:=NB308_307.out;have hnc8:=NB307_308.out;have hcz9_0 : w4.cell? ⟨gb308,0,none⟩ = some (.int .i64 0):=(c_ BK308.out 0).trans rfl;have hcz9_1 : w4.cell? ⟨gb308,1,none⟩ = some (.int .i64 0):=(c_ BK308.out 1).trans rfl;have hfz9_0:=f_ BK308.out 0;have hfz9_1:=f_ BK308.out 1;have hcz10_0 : w4.cell? ⟨gb307,0,none⟩ = some (.int .i64 0):=(c_ BK307.out 0).trans rfl;have hcz10_1 : w4.cell? ⟨gb307,1,none⟩ = some (.int .i64 0):=(c_ BK307.out 1).trans rfl;have hfz10_0:=f_ BK307.out 0;have hfz10_1:=f_ BK307.out 1))
 refine bodyPost_ret (results_cell_row rfl _ _ gb307 32 #[.int .i64 a0_0,.int .i64 a0_1] (0,0) _ rfl (by (with_reducible repeat first|apply b1_|apply b2_|apply b3_);refine blk_put (cs:=#[.int .i64 a0_0,.int .i64 0]) ?_ 1 _ rfl;(with_reducible repeat first|apply b1_|apply b2_|apply b3_);refine blk_put (cs:=#[.int .i64 0,.int .i64 0]) ?_ 0 _ rfl;(with_reducible repeat first|apply b1_|apply b2_|apply b3_);refine b4_ ?_ NB307_308.out _;(with_reducible repeat first|apply b1_|apply b2_|apply b3_);refine b4_ ?_ NB307_308.out _;(with_reducible repeat first|apply b1_|apply b2_|apply b3_);exact BK307.out) Tryd.underlying32 rfl (by kernel_rfl)) rfl ?_
 exact ⟨by first|rfl|(simp [e1_,e2_] <;> rfl)|(simp [*,e1_,e2_] <;> rfl)|(simp [e1_,e2_,pk_empty1,pk_empty2];done)|(simp [*,e1_,e2_,pk_empty1,pk_empty2];done),by repeat (first|(with_reducible first|exact HB.out|apply l1_|apply l2_|apply l3_|refine l4_ ?_ GE306.out|refine l4_ ?_ GE307.out|refine l4_ ?_ GE308.out)|exact HB.out)⟩

/-! ### slices_Clip_End: function 47 -/
/-- The same row, with no more capacity than it has elements. -/
def slices_Clip_End.f (l0 : List (S32)) : Option (List (S32)) := some l0
theorem slices_Clip_End.calls (P0_ : Nat → Prop) (u9000_ : Value) (l0 : List (S32)) (r : List (S32)) (w0 w : World) (hB : Below w0.heap.size w0 w) (ho0 : Kd.R k32 32 w w0.heap.size P0_ u9000_ l0) (h : slices_Clip_End.f l0 = some r) :
  Calls Tryd.prog 47 #[u9000_] w fun e w'=>∃ v0_ : Value,e = .returned v0_ ∧ Kd.R k32 32 w' w0.heap.size (fun k_=>(P0_ k_ ∨ w.heap.size ≤ k_)) v0_ r ∧ Below w0.heap.size w0 w' ∧ Kept w w' (fun k_=>P0_ k_):=by
 obtain rfl:=Option.some.inj h
 obtain ⟨hok,inner,ho,hr⟩:=ho0
 have fin : ∀ v : Value,v.ownBlock = u9000_.ownBlock → Go.Proofs.YtclhmoghkcnkmaaDoorW.ownsWide w w0.heap.size 32 k32.sz v l0.length inner → Kd.R k32 32 w w0.heap.size (fun k_=>(P0_ k_ ∨ w.heap.size ≤ k_)) v l0:=by
  intro v hv hw
  refine ⟨fun k hk=>.inl (hok k (hv ▸ hk)),inner,hw,hr.imp_ (fun _ _ hp=>Kd.M_mono _ (fun k hk=>⟨.inl hk.1,hv ▸ hk.2⟩) hp)⟩
 rcases ho.2 with ⟨rfl,hn⟩|⟨g,cap,cur,rfl,hb,hg,h4,h5,h6,h7⟩
 ·go_enter Tryd.func47,Tryd.ntmps47
  go_wp2
  go_ret
  exact ⟨_,rfl,fin _ rfl ho,hB,Kept.refl _ _⟩
 ·have e0 : (0 : Int) ≤ (l0.length : Int):=Int.natCast_nonneg _
  have e1 : (l0.length : Int) ≤ (cap : Int):=Int.ofNat_le.2 h4
  go_enter Tryd.func47,Tryd.ntmps47
  go_wp2
  go_ret
  exact ⟨_,rfl,fin _ rfl ho.clip,hB,Kept.refl _ _⟩

/-! ### impl_TextNames: function 20 -/
def impl_TextNames.l0 : Nat → List (S32) → List (S34) → Int → Int → Option ((List (S32)))
 | 0, _, _, _, _ => none
 | k + 1, x3, x8, x9, x10 => if x10 < x9 then (if 0 ≤ x10 then (if x10 < (x8.length : Int) then (if (rd_T34 x8 x10).f1 = true then (if x3.length < 8796093022208 then (impl_TextNames.l0 k (x3 ++ [(⟨(rd_T34 x8 x10).f2.f0, (rd_T34 x8 x10).f2.f1⟩ : S32)]) x8 x9 (wrap64 (x10 + 1))) else (none)) else (impl_TextNames.l0 k x3 x8 x9 (wrap64 (x10 + 1)))) else (none)) else (none)) else ((slices_Clip_End.f x3).bind fun t320 => (some t320))
def impl_TextNames.f (k : Nat) (a0 : ByteArray) : Option ((List (S32))) := (impl_TextPieces.f k a0).bind fun t312 => (impl_TextNames.l0 k (([] : List (S32))) t312 (t312.length : Int) 0)
theorem impl_TextNames.mono_l : ∀ k, (∀ y0 y1 y2 y3, LeO (impl_TextNames.l0 k y0 y1 y2 y3) (impl_TextNames.l0 (k + 1) y0 y1 y2 y3))
 | 0 => fun _ _ _ _ r h => by simp [impl_TextNames.l0] at h
 | k + 1 => by
  have ih0:=impl_TextNames.mono_l k
  ·intro y0 y1 y2 y3
   unfold impl_TextNames.l0
   repeat' first
   | (with_reducible exact ih0 _ _ _ _)
   | (with_reducible exact impl_TextPieces.mono _ _)
   | (with_reducible exact LeO.refl _)
   | (with_reducible exact LeO.none _)
   | (with_reducible refine LeO.ite ?_ ?_)
   | (with_reducible refine LeO.bind ?_ (fun _ => ?_))
   | exact ih0 _ _ _ _
   | exact impl_TextPieces.mono _ _
   | exact LeO.none _
   | refine LeO.ite ?_ ?_
   | refine LeO.bind ?_ (fun _ => ?_)
theorem impl_TextNames.mono : ∀ a0 k, LeO (impl_TextNames.f k a0) (impl_TextNames.f (k + 1) a0) := by
 intro a0 k
 have ih0:=impl_TextNames.mono_l k
 unfold impl_TextNames.f
 repeat' first
   | (with_reducible exact ih0 _ _ _ _)
   | (with_reducible exact impl_TextPieces.mono _ _)
   | (with_reducible exact LeO.refl _)
   | (with_reducible exact LeO.none _)
   | (with_reducible refine LeO.ite ?_ ?_)
   | (with_reducible refine LeO.bind ?_ (fun _ => ?_))
   | exact ih0 _ _ _ _
   | exact impl_TextPieces.mono _ _
   | exact LeO.none _
   | refine LeO.ite ?_ ?_
   | refine LeO.bind ?_ (fun _ => ?_)
set_option maxHeartbeats 8000000 in
set_option maxRecDepth 100000 in
theorem impl_TextNames.calls (k : Nat) (a0 : ByteArray) (r : List (S32)) (w : World) (hG : GV w) (h : impl_TextNames.f k a0 = some r) :
  Calls Tryd.prog 20 #[.string a0] w fun e w'=>∃ v0_ : Value,e = .returned (v0_) ∧ Kd.R k32 32 w' w.heap.size (fun _=>True) v0_ r ∧ Below w.heap.size w w':=by
 have hu34:=Tryd.underlying34
 have hu32:=Tryd.underlying32
 have HG:=m_ hG
 clear hG
 have HB:=m_ (Below.refl w.heap.size w)
 have H : ((impl_TextPieces.f k a0).bind fun t312=>(impl_TextNames.l0 k (([] : List (S32))) t312 (t312.length : Int) 0)) = some r:=h
 clear h
 obtain ⟨y309,hy309⟩ : ∃ y_ : List (S32),y_ = (([] : List (S32))):=⟨_,rfl⟩
 replace H : ((impl_TextPieces.f k a0).bind fun t312=>(impl_TextNames.l0 k y309 t312 (t312.length : Int) 0)) = some r:=by first|(rw [hy309];with_reducible exact H)|(have H2_:=(Option.bind_some _ _).symm.trans H;rw [hy309];with_reducible exact H2_)|(have H2_:=(Option.bind_some _ _).symm.trans H;with_reducible exact H2_)|with_reducible exact H|(rw [hy309];exact H)|exact H
 have Ny309:=m_ hy309
 clear hy309
 replace H:=Option.bind_eq_some_iff.mp H
 obtain ⟨t312,A20,H⟩:=H
 replace H : (impl_TextNames.l0 k y309 t312 (t312.length : Int) 0) = some r:=H
 have A2:=m_ A20
 clear A20
 have H':=m_ H
 clear H
 go_enter Tryd.func20,Tryd.ntmps20
 go_wp2_with (first|((with_reducible refine gate_dst (N:=6) rfl ?_);refine Kd.R_lit k32 _ 32 ?hg (N:=6) ?hd (xs:=([] : List (S32))) (inner:=[]) (ok:=fun _=>True) (okp:=fun _=>True) ?hr ?hp (fun _ hk=>hk) trivial (Below.refl _ _) (Nat.le_refl _) (by simp) ?_;(case hd=>rfl);(case hg=>rfl);(case hr=>first|(go_simp;done)|(go_simp;rfl));(case hp=>exact (Reps.none _ _));intro v310 w3 ho4 hb hg_ hnew_;clear hg_ hnew_;(first|rw [← Ny309.out] at ho4|(simp only [Int.reduceToNat] at ho4;rw [← Ny309.out] at ho4));have n0_:=m_ (Kd.R_lower ho4 (l6_ (by repeat (first|(with_reducible first|exact HB.out|apply l1_|apply l2_|apply l3_)|exact HB.out))));have n1_:=m_ (l5_ (by repeat (first|(with_reducible first|exact HB.out|apply l1_|apply l2_|apply l3_)|exact HB.out)) hb);clear HB;have HO311:=n0_;have HB:=n1_;clear n0_ n1_;clear hb ho4)|((with_reducible refine gate_callee (f:=15) rfl ?_);refine goesL_ (some 8) rfl rfl Tryd.func15 (by kernel_rfl) rfl #[.string a0] rfl (by (try simp only [List.map_toArray,List.map_cons,List.map_nil]);first|done|rfl|(simp only [List.length_drop,List.length_take];rfl)) ?_;(with_reducible refine (impl_TextPieces.calls k a0 t312 _ ?side1 A2.out).mono ?_);(case side1=>first|exact HG.out|exact GV_below HG.out (by repeat (first|(with_reducible first|exact HB.out|apply l1_|apply l2_|apply l3_)|exact HB.out)));rintro e w5 ⟨v313,rfl,ho0,hb⟩;refine ⟨_,rfl,?_⟩;have n0_:=m_ (Kd.R_below (by (with_reducible repeat (first|apply Kd.R_alloc|apply Kd.R_drewN|apply Kd.R_drew));exact HO311.out) hb);have n1_:=m_ (Kd.R_lower ho0 (l6_ (by repeat (first|(with_reducible first|exact HB.out|apply l1_|apply l2_|apply l3_)|exact HB.out))));have n2_:=m_ (l5_ (by repeat (first|(with_reducible first|exact HB.out|apply l1_|apply l2_|apply l3_)|exact HB.out)) hb);clear HO311;clear HB;have HO311:=n0_;have HO314:=n1_;have HB:=n2_;clear n0_ n1_ n2_;(try clear hb);(try clear hb2);(try clear hk);(try clear hi);(try clear ho0);obtain ⟨Ao6,co6,eo6⟩:=Kd.R_slice HO314.out;subst eo6))
 go_loopg [3,10] k (fun kq v3 v10 w'=>∃ (x3_1 : List (S32)) (x10_1 : Int),v10 = .int .i64 x10_1 ∧ Aside0 (impl_TextNames.l0 kq x3_1 t312 (t312.length : Int) x10_1 = some r) ∧ Aside0 (kq ≤ k) ∧ Aside0 (Kd.R k32 32 w' w.heap.size (fun _=>True) v3 x3_1) ∧ Aside0 (Kd.R k34 34 w' w.heap.size (fun _=>True) (.slice Ao6 t312.length co6) t312) ∧ Aside0 (Below w.heap.size w w'))
 case atStart=>exact ⟨(y309),(0),(by first|rfl|(simp;done)|(simp [*];done)),H',⟨Nat.le_refl _⟩,⟨by (with_reducible repeat (first|apply Kd.R_alloc|apply Kd.R_drewN|apply Kd.R_drew));exact HO311.out⟩,⟨by (with_reducible repeat (first|apply Kd.R_alloc|apply Kd.R_drewN|apply Kd.R_drew));exact HO314.out⟩,⟨by repeat (first|(with_reducible first|exact HB.out|apply l1_|apply l2_|apply l3_)|exact HB.out)⟩⟩
 case round =>
  clear H'
  try clear c1
  try clear c2
  try clear p2
  obtain ⟨x3_1,x10_1,rfl,HA,HK1,HO_3,HO_8,HB⟩:=hrel
  cases gk with
  | zero => exact absurd HA.out (by simp [impl_TextNames.l0])
  | succ k1 =>
   have H:=HA.out
   clear HA
   simp only [impl_TextNames.l0] at H
   by_cases c7 : x10_1 < (t312.length : Int)
   ·rw [if_pos c7] at H
    have c7b0 : decide (x10_1 < (t312.length : Int)) = true:=decide_eq_true c7
    clear c7
    by_cases c8 : 0 ≤ x10_1
    ·rw [if_pos c8] at H
     have c8b0 : decide (0 ≤ x10_1) = true:=decide_eq_true c8
     clear c8
     by_cases c9 : x10_1 < (t312.length : Int)
     ·rw [if_pos c9] at H
      have c9b0 : decide (x10_1 < (t312.length : Int)) = true:=decide_eq_true c9
      clear c9
      obtain ⟨bq10,hbq10⟩ : ∃ b_ : Bool,b_ = ((rd_T34 t312 x10_1).f1):=⟨_,rfl⟩
      replace H : (if bq10 = true then (if x3_1.length < 8796093022208 then (impl_TextNames.l0 k1 (x3_1 ++ [(⟨(rd_T34 t312 x10_1).f2.f0,(rd_T34 t312 x10_1).f2.f1⟩ : S32)]) t312 (t312.length : Int) (wrap64 (x10_1 + 1))) else (none)) else (impl_TextNames.l0 k1 x3_1 t312 (t312.length : Int) (wrap64 (x10_1 + 1)))) = some r:=by rw [← hbq10] at H;exact H
      have Nbq10:=m_ hbq10
      clear hbq10
      by_cases c11 : bq10 = true
      ·subst c11
       have H1 : (if x3_1.length < 8796093022208 then (impl_TextNames.l0 k1 (x3_1 ++ [(⟨(rd_T34 t312 x10_1).f2.f0,(rd_T34 t312 x10_1).f2.f1⟩ : S32)]) t312 (t312.length : Int) (wrap64 (x10_1 + 1))) else (none)) = some r:=by rw [if_pos rfl] at H;exact H
       clear H
       have H:=H1
       clear H1
       by_cases c12 : x3_1.length < 8796093022208
       ·rw [if_pos c12] at H
        have LMc12:=m_ c12
        clear c12
        obtain ⟨y317,hy317⟩ : ∃ y_ : List (S32),y_ = (x3_1 ++ [(⟨(rd_T34 t312 x10_1).f2.f0,(rd_T34 t312 x10_1).f2.f1⟩ : S32)]):=⟨_,rfl⟩
        replace H : (impl_TextNames.l0 k1 y317 t312 (t312.length : Int) (wrap64 (x10_1 + 1))) = some r:=by first|(rw [hy317];with_reducible exact H)|(have H2_:=(Option.bind_some _ _).symm.trans H;rw [hy317];with_reducible exact H2_)|(have H2_:=(Option.bind_some _ _).symm.trans H;with_reducible exact H2_)|with_reducible exact H|(rw [hy317];exact H)|exact H
        have Ny317:=m_ hy317
        clear hy317
        have H':=m_ H
        clear H
        have p315 : 0 ≤ (x10_1 : Int):=of_decide_eq_true (by first|(with_reducible assumption)|assumption)
        have q315 : x10_1 < (t312.length : Int):=of_decide_eq_true (by first|(with_reducible assumption)|assumption)
        obtain ⟨ad315,e315,hx315_0,hx315_1,hx315_2,hx315_3⟩:=at_T34 (Kd.R_reads' HO_8.out).2.2 x10_1 p315 q315
        (try rw [← Nbq10.out] at hx315_1)
        cases e315
        replace p315:=eq_true p315
        replace q315:=eq_true q315
        go_wp2_with (first|((with_reducible refine gate_dst (N:=5) rfl ?_);refine box_event ?hg (N:=5) ?hd (cs:=#[.int .i64 0,.bool false,.int .i64 0,.int .i64 0]) (t:=34) ?hr ?_;(case hd=>rfl);(case hg=>rfl);(case hr=>first|(go_simp;done)|(go_simp;rfl));intro gb316 hg w13 hbox hb;have n0_:=m_ (Kd.R_below (by (with_reducible repeat (first|apply Kd.R_alloc|apply Kd.R_drewN|apply Kd.R_drew));exact HO_3.out) hb);have n1_:=m_ (Kd.R_below (Kd.R_elderB (by (with_reducible repeat (first|apply Kd.R_alloc|apply Kd.R_drewN|apply Kd.R_drew));exact HO_8.out) gb316 (Nat.le_of_eq hg.symm)) hb);have n2_:=m_ (l5_ (by repeat (first|(with_reducible first|exact HB.out|apply l1_|apply l2_|apply l3_)|exact HB.out)) hb);have n3_:=m_ (hbox);have n4_:=m_ ((by rw [hg];exact (l6_ (by repeat (first|(with_reducible first|exact HB.out|apply l1_|apply l2_|apply l3_)|exact HB.out))) : w.heap.size ≤ gb316));have n5_:=m_ ((by rw [hg];exact (l6_ (by repeat (first|(with_reducible first|exact HB.out|apply l1_|apply l2_|apply l3_)|exact HB.out))) : w.heap.size ≤ gb316));clear HO_3;clear HO_8;clear HB;have HO_3:=n0_;have HO_8:=n1_;have HB:=n2_;have BK316:=n3_;have GW316:=n4_;have GE316:=n5_;clear n0_ n1_ n2_ n3_ n4_ n5_;clear hb hbox hg;have hcz14_0 : w13.cell? ⟨gb316,0,none⟩ = some (.int .i64 0):=(c_ BK316.out 0).trans rfl;have hcz14_1 : w13.cell? ⟨gb316,1,none⟩ = some (.bool false):=(c_ BK316.out 1).trans rfl;have hcz14_2 : w13.cell? ⟨gb316,2,none⟩ = some (.int .i64 0):=(c_ BK316.out 2).trans rfl;have hcz14_3 : w13.cell? ⟨gb316,3,none⟩ = some (.int .i64 0):=(c_ BK316.out 3).trans rfl;have hfz14_0:=f_ BK316.out 0;have hfz14_1:=f_ BK316.out 1;have hfz14_2:=f_ BK316.out 2;have hfz14_3:=f_ BK316.out 3)|((with_reducible refine gate_builtin (b:=.append) (xs:=#[.tmp 16,.tmp 19]) rfl ?_);at_builtin;refine Kd.R_append k32 (w0:=w) w.heap.size rfl (.tmp 16) (.tmp 19) 29 32 (.agg #[(.int .i64 0),(.int .i64 0)]) 16 rfl Tryd.underlying29 info32 rfl (by decide) (by omega) u3 x3_1 (⟨(rd_T34 t312 x10_1).f2.f0,(rd_T34 t312 x10_1).f2.f1⟩ : S32) [.int .i64 ((rd_T34 t312 x10_1).f2.f0),.int .i64 ((rd_T34 t312 x10_1).f2.f1)] (fun _=>True) (fun _=>False) rfl (by first|(go_simp;done)|(go_simp;rfl)) ?aP (fun _ hk=>hk.elim) ?aF ?aO ?aB ?aS ?aL ?_;(case aP=>exact k32_mkM _ _ _ (⟨(rd_T34 t312 x10_1).f2.f0,(rd_T34 t312 x10_1).f2.f1⟩ : S32));(case aB=>exact (by repeat (first|(with_reducible first|exact HB.out|apply l1_|apply l2_|apply l3_|refine l4_ ?_ GE316.out)|exact HB.out)));(case aF=>exact (fun _ _=>trivial));(case aO=>exact (by (with_reducible repeat (first|apply Kd.R_alloc|apply Kd.R_drewN|apply Kd.R_drew));exact Kd.R_mono (Kd.R_far (p:=⟨gb316,3,none⟩) (Kd.R_far (p:=⟨gb316,2,none⟩) (Kd.R_far (p:=⟨gb316,1,none⟩) (Kd.R_far (p:=⟨gb316,0,none⟩) (Kd.R_types HO_3.out BK316.out (by decide)) (fun _ hk=>hk.2) (.int .i64 ((rd_T34 t312 x10_1).f0))) (fun _ hk=>hk.2) (.bool true)) (fun _ hk=>hk.2) (.int .i64 ((rd_T34 t312 x10_1).f2.f0))) (fun _ hk=>hk.2) (.int .i64 ((rd_T34 t312 x10_1).f2.f1))) (fun _ hk=>trivial)));(case aS=>exact (l6_ (by repeat (first|(with_reducible first|exact HB.out|apply l1_|apply l2_|apply l3_|refine l4_ ?_ GE316.out)|exact HB.out))));(case aL=>have:=LMc12.out;omega);intro v318 w15 ho hb hg hat;rw [← Ny317.out] at ho;have n0_:=m_ (Kd.R_over' (by (with_reducible repeat (first|apply Kd.R_alloc|apply Kd.R_drewN|apply Kd.R_drew));exact (Kd.R_mono (Kd.R_far (p:=⟨gb316,3,none⟩) (Kd.R_far (p:=⟨gb316,2,none⟩) (Kd.R_far (p:=⟨gb316,1,none⟩) (Kd.R_far (p:=⟨gb316,0,none⟩) (Kd.R_mono HO_8.out (fun k_ hk=>(⟨hk,hk.2⟩ : _ ∧ k_ ≠ gb316))) (fun _ hk=>hk.2) (.int .i64 ((rd_T34 t312 x10_1).f0))) (fun _ hk=>hk.2) (.bool true)) (fun _ hk=>hk.2) (.int .i64 ((rd_T34 t312 x10_1).f2.f0))) (fun _ hk=>hk.2) (.int .i64 ((rd_T34 t312 x10_1).f2.f1))) (fun _ h_=>h_.1))) (Kd.R_typed (by (with_reducible repeat (first|apply Kd.R_alloc|apply Kd.R_drewN|apply Kd.R_drew));exact (Kd.R_mono (Kd.R_far (p:=⟨gb316,3,none⟩) (Kd.R_far (p:=⟨gb316,2,none⟩) (Kd.R_far (p:=⟨gb316,1,none⟩) (Kd.R_far (p:=⟨gb316,0,none⟩) (Kd.R_types HO_3.out BK316.out (by decide)) (fun _ hk=>hk.2) (.int .i64 ((rd_T34 t312 x10_1).f0))) (fun _ hk=>hk.2) (.bool true)) (fun _ hk=>hk.2) (.int .i64 ((rd_T34 t312 x10_1).f2.f0))) (fun _ hk=>hk.2) (.int .i64 ((rd_T34 t312 x10_1).f2.f1))) (fun _ h_=>h_.1)))) (by decide) hg);have n1_:=m_ (blk_grown (g:=gb316) (o:=.cells #[.int .i64 ((rd_T34 t312 x10_1).f0),.bool true,.int .i64 ((rd_T34 t312 x10_1).f2.f0),.int .i64 ((rd_T34 t312 x10_1).f2.f1)] 34 (0,0)) (by (with_reducible repeat first|apply b1_|apply b2_|apply b3_);refine blk_put (cs:=#[.int .i64 ((rd_T34 t312 x10_1).f0),.bool true,.int .i64 ((rd_T34 t312 x10_1).f2.f0),.int .i64 0]) ?_ 3 _ rfl;(with_reducible repeat first|apply b1_|apply b2_|apply b3_);refine blk_put (cs:=#[.int .i64 ((rd_T34 t312 x10_1).f0),.bool true,.int .i64 0,.int .i64 0]) ?_ 2 _ rfl;(with_reducible repeat first|apply b1_|apply b2_|apply b3_);refine blk_put (cs:=#[.int .i64 ((rd_T34 t312 x10_1).f0),.bool false,.int .i64 0,.int .i64 0]) ?_ 1 _ rfl;(with_reducible repeat first|apply b1_|apply b2_|apply b3_);refine blk_put (cs:=#[.int .i64 0,.bool false,.int .i64 0,.int .i64 0]) ?_ 0 _ rfl;(with_reducible repeat first|apply b1_|apply b2_|apply b3_);exact BK316.out) hg (Kd.R_ne HO_3.out BK316.out (by decide)));have n2_:=m_ (hb);have n3_:=m_ (ho);clear HO_8;clear BK316;clear HB;clear HO_3;have HO_8:=n0_;have BK316:=n1_;have HB:=n2_;have HO319:=n3_;clear n0_ n1_ n2_ n3_;clear ho hb hg hat))
        go_roundg k1
        case measure=>have:=HK1.out;omega
        case rel=>exact ⟨(y317),(wrap64 (x10_1 + 1)),(by first|rfl|(simp;done)|(simp [*];done)),H',⟨by have:=HK1.out;omega⟩,⟨by (with_reducible repeat (first|apply Kd.R_alloc|apply Kd.R_drewN|apply Kd.R_drew));exact HO319.out⟩,⟨by (with_reducible repeat (first|apply Kd.R_alloc|apply Kd.R_drewN|apply Kd.R_drew));exact Kd.R_mono HO_8.out (fun _ hk=>trivial)⟩,⟨by repeat (first|(with_reducible first|exact HB.out|apply l1_|apply l2_|apply l3_|refine l4_ ?_ GE316.out)|exact HB.out)⟩⟩
       ·rw [if_neg c12] at H
        exact absurd H (by simp)
      ·replace c11:=Bool.eq_false_iff.mpr c11
       subst c11
       have H1 : (impl_TextNames.l0 k1 x3_1 t312 (t312.length : Int) (wrap64 (x10_1 + 1))) = some r:=by rw [if_neg (show ¬ (false = true) by decide)] at H;exact H
       clear H
       have H:=H1
       clear H1
       have H':=m_ H
       clear H
       have p315 : 0 ≤ (x10_1 : Int):=of_decide_eq_true (by first|(with_reducible assumption)|assumption)
       have q315 : x10_1 < (t312.length : Int):=of_decide_eq_true (by first|(with_reducible assumption)|assumption)
       obtain ⟨ad315,e315,hx315_0,hx315_1,hx315_2,hx315_3⟩:=at_T34 (Kd.R_reads' HO_8.out).2.2 x10_1 p315 q315
       (try rw [← Nbq10.out] at hx315_1)
       cases e315
       replace p315:=eq_true p315
       replace q315:=eq_true q315
       go_wp2_with (first|((with_reducible refine gate_dst (N:=5) rfl ?_);refine box_event ?hg (N:=5) ?hd (cs:=#[.int .i64 0,.bool false,.int .i64 0,.int .i64 0]) (t:=34) ?hr ?_;(case hd=>rfl);(case hg=>rfl);(case hr=>first|(go_simp;done)|(go_simp;rfl));intro gb316 hg w16 hbox hb;have n0_:=m_ (Kd.R_below (by (with_reducible repeat (first|apply Kd.R_alloc|apply Kd.R_drewN|apply Kd.R_drew));exact HO_3.out) hb);have n1_:=m_ (Kd.R_below (Kd.R_elderB (by (with_reducible repeat (first|apply Kd.R_alloc|apply Kd.R_drewN|apply Kd.R_drew));exact HO_8.out) gb316 (Nat.le_of_eq hg.symm)) hb);have n2_:=m_ (l5_ (by repeat (first|(with_reducible first|exact HB.out|apply l1_|apply l2_|apply l3_)|exact HB.out)) hb);have n3_:=m_ (hbox);have n4_:=m_ ((by rw [hg];exact (l6_ (by repeat (first|(with_reducible first|exact HB.out|apply l1_|apply l2_|apply l3_)|exact HB.out))) : w.heap.size ≤ gb316));have n5_:=n4_;clear HO_3;clear HO_8;clear HB;have HO_3:=n0_;have HO_8:=n1_;have HB:=n2_;have BK316:=n3_;have GW316:=n4_;have GE316:=n5_;clear n0_ n1_ n2_ n3_ n4_ n5_;clear hb hbox hg;have hcz17_0 : w16.cell? ⟨gb316,0,none⟩ = some (.int .i64 0):=(c_ BK316.out 0).trans rfl;have hcz17_1 : w16.cell? ⟨gb316,1,none⟩ = some (.bool false):=(c_ BK316.out 1).trans rfl;have hcz17_2 : w16.cell? ⟨gb316,2,none⟩ = some (.int .i64 0):=(c_ BK316.out 2).trans rfl;have hcz17_3 : w16.cell? ⟨gb316,3,none⟩ = some (.int .i64 0):=(c_ BK316.out 3).trans rfl;have hfz17_0:=f_ BK316.out 0;have hfz17_1:=f_ BK316.out 1;have hfz17_2:=f_ BK316.out 2;have hfz17_3:=f_ BK316.out 3))
       go_roundg k1
       case measure=>have:=HK1.out;omega
       case rel=>exact ⟨(x3_1),(wrap64 (x10_1 + 1)),(by first|rfl|(simp;done)|(simp [*];done)),H',⟨by have:=HK1.out;omega⟩,⟨by (with_reducible repeat (first|apply Kd.R_alloc|apply Kd.R_drewN|apply Kd.R_drew));exact Kd.R_mono (Kd.R_far (p:=⟨gb316,3,none⟩) (Kd.R_far (p:=⟨gb316,2,none⟩) (Kd.R_far (p:=⟨gb316,1,none⟩) (Kd.R_far (p:=⟨gb316,0,none⟩) (Kd.R_types HO_3.out BK316.out (by decide)) (fun _ hk=>hk.2) (.int .i64 ((rd_T34 t312 x10_1).f0))) (fun _ hk=>hk.2) (.bool false)) (fun _ hk=>hk.2) (.int .i64 ((rd_T34 t312 x10_1).f2.f0))) (fun _ hk=>hk.2) (.int .i64 ((rd_T34 t312 x10_1).f2.f1))) (fun _ hk=>trivial)⟩,⟨by (with_reducible repeat (first|apply Kd.R_alloc|apply Kd.R_drewN|apply Kd.R_drew));exact Kd.R_mono (Kd.R_far (p:=⟨gb316,3,none⟩) (Kd.R_far (p:=⟨gb316,2,none⟩) (Kd.R_far (p:=⟨gb316,1,none⟩) (Kd.R_far (p:=⟨gb316,0,none⟩) (Kd.R_mono HO_8.out (fun k_ hk=>(⟨hk,hk.2⟩ : _ ∧ k_ ≠ gb316))) (fun _ hk=>hk.2) (.int .i64 ((rd_T34 t312 x10_1).f0))) (fun _ hk=>hk.2) (.bool false)) (fun _ hk=>hk.2) (.int .i64 ((rd_T34 t312 x10_1).f2.f0))) (fun _ hk=>hk.2) (.int .i64 ((rd_T34 t312 x10_1).f2.f1))) (fun _ hk=>trivial)⟩,⟨by repeat (first|(with_reducible first|exact HB.out|apply l1_|apply l2_|apply l3_|refine l4_ ?_ GE316.out)|exact HB.out)⟩⟩
     ·rw [if_neg c9] at H
      exact absurd H (by simp)
    ·rw [if_neg c8] at H
     exact absurd H (by simp)
   ·rw [if_neg c7] at H
    have c7b0 : decide (x10_1 < (t312.length : Int)) = false:=decide_eq_false c7
    clear c7
    replace H:=Option.bind_eq_some_iff.mp H
    obtain ⟨t320,A180,H⟩:=H
    replace H : (some t320) = some r:=H
    have A18:=m_ A180
    clear A180
    obtain rfl:=Option.some.inj H
    obtain ⟨Ao19,co19,eo19⟩:=Kd.R_slice HO_3.out
    subst eo19
    go_wp2_with (first|((with_reducible refine gate_callee (f:=47) rfl ?_);refine goesL_ (some 23) rfl rfl Tryd.func47 (by kernel_rfl) rfl #[.slice Ao19 x3_1.length co19] rfl (by (try simp only [List.map_toArray,List.map_cons,List.map_nil]);first|done|rfl|(simp only [List.length_drop,List.length_take];rfl)) ?_;(with_reducible refine (slices_Clip_End.calls (fun k_=>some k_ = (.slice Ao19 x3_1.length co19 : Value).ownBlock) (.slice Ao19 x3_1.length co19) x3_1 t320 w _ ?side1 ?side2 A18.out).mono ?_);(case side1=>repeat (first|(with_reducible first|exact HB.out|apply l1_|apply l2_|apply l3_)|exact HB.out));(case side2=>exact Kd.R_tight rfl HO_3.out);rintro e w20 ⟨v321,rfl,ho0,hb,hkp⟩;refine ⟨_,rfl,?_⟩;have n0_:=m_ (Kd.R_mono (ok':=fun k_=>True) (Kd.R_keptB ((Kd.R_apart' HO_8.out (Kd.R_typed HO_3.out) (by decide))) hkp (fun k_ hk_ hs_=>(hk_.2) hs_)) (fun k_ hk_=>trivial));have n1_:=m_ (Kd.R_mono (ok':=fun k_=>True) ho0 (fun k_ hk_=>trivial));have n2_:=m_ (hb);clear HO_8;clear HB;clear HO_3;have HO_8:=n0_;have HO322:=n1_;have HB:=n2_;clear n0_ n1_ n2_;(try clear hb);(try clear hkp);(try clear ho0)))
    go_ret
    exact ⟨_,by first|rfl|(simp [e1_,e2_] <;> rfl)|(simp [*,e1_,e2_] <;> rfl)|(simp [e1_,e2_,pk_empty1,pk_empty2];done)|(simp [*,e1_,e2_,pk_empty1,pk_empty2];done),by (with_reducible repeat (first|apply Kd.R_alloc|apply Kd.R_drewN|apply Kd.R_drew));exact HO322.out,by repeat (first|(with_reducible first|exact HB.out|apply l1_|apply l2_|apply l3_)|exact HB.out)⟩

/-! ### impl_saying: function 61 -/
def impl_saying.f (k : Nat) (a0 : ByteArray) : Option (Bool) := if (a0.size : Int) ≤ 24 then ((impl_TextOk.f a0).bind fun t323 => (if t323 = true then ((impl_held.f k a0).bind fun t324 => (some (t324 == 0))) else (some false))) else (some false)
theorem impl_saying.mono : ∀ a0 k, LeO (impl_saying.f k a0) (impl_saying.f (k + 1) a0) := by
 intro a0 k
 unfold impl_saying.f
 repeat' first
   | (with_reducible exact impl_held.mono _ _)
   | (with_reducible exact LeO.refl _)
   | (with_reducible exact LeO.none _)
   | (with_reducible refine LeO.ite ?_ ?_)
   | (with_reducible refine LeO.bind ?_ (fun _ => ?_))
   | exact impl_held.mono _ _
   | exact LeO.none _
   | refine LeO.ite ?_ ?_
   | refine LeO.bind ?_ (fun _ => ?_)
set_option maxHeartbeats 8000000 in
set_option maxRecDepth 100000 in
theorem impl_saying.calls (k : Nat) (a0 : ByteArray) (r : Bool) (w : World) (h : impl_saying.f k a0 = some r) :
  Calls Tryd.prog 61 #[.string a0] w fun e w'=>e = .returned (.bool r) ∧ Below w.heap.size w w':=by
 have HB:=m_ (Below.refl w.heap.size w)
 have H : (if (a0.size : Int) ≤ 24 then ((impl_TextOk.f a0).bind fun t323=>(if t323 = true then ((impl_held.f k a0).bind fun t324=>(some (t324 == 0))) else (some false))) else (some false)) = some r:=h
 clear h
 by_cases c2 : (a0.size : Int) ≤ 24
 ·rw [if_pos c2] at H
  have c2b0 : decide ((a0.size : Int) ≤ 24) = true:=decide_eq_true c2
  have c2b1 : decide (a0.size ≤ 24) = true:=decide_eq_true (by omega)
  clear c2
  replace H:=Option.bind_eq_some_iff.mp H
  obtain ⟨t323,A30,H⟩:=H
  replace H : (if t323 = true then ((impl_held.f k a0).bind fun t324=>(some (t324 == 0))) else (some false)) = some r:=H
  have A3:=m_ A30
  clear A30
  by_cases c4 : t323 = true
  ·subst c4
   have H1 : ((impl_held.f k a0).bind fun t324=>(some (t324 == 0))) = some r:=by rw [if_pos rfl] at H;exact H
   clear H
   have H:=H1
   clear H1
   replace H:=Option.bind_eq_some_iff.mp H
   obtain ⟨t324,A50,H⟩:=H
   replace H : (some (t324 == 0)) = some r:=H
   have A5:=m_ A50
   clear A50
   obtain rfl:=Option.some.inj H
   go_enter Tryd.func61,Tryd.ntmps61
   go_wp2_with (first|(go_at_call 33;(with_reducible refine (impl_TextOk.calls a0 true _ A3.out).mono ?_);rintro e w6 ⟨rfl,hb⟩;have n0_:=m_ (l5_ (by repeat (first|(with_reducible first|exact HB.out|apply l1_|apply l2_|apply l3_)|exact HB.out)) hb);clear HB;have HB:=n0_;clear n0_;(try clear hb);(try clear hb2);(try clear hk);(try clear hi))|(go_at_call 54;(with_reducible refine (impl_held.calls k a0 t324 _ A5.out).mono ?_);rintro e w7 ⟨rfl,hb⟩;have n0_:=m_ (l5_ (by repeat (first|(with_reducible first|exact HB.out|apply l1_|apply l2_|apply l3_)|exact HB.out)) hb);clear HB;have HB:=n0_;clear n0_;(try clear hb);(try clear hb2);(try clear hk);(try clear hi)))
   go_ret
   exact ⟨by first|rfl|(simp [e1_,e2_] <;> rfl)|(simp [*,e1_,e2_] <;> rfl)|(simp [e1_,e2_,pk_empty1,pk_empty2];done)|(simp [*,e1_,e2_,pk_empty1,pk_empty2];done),by repeat (first|(with_reducible first|exact HB.out|apply l1_|apply l2_|apply l3_)|exact HB.out)⟩
  ·replace c4:=Bool.eq_false_iff.mpr c4
   subst c4
   have H1 : (some false) = some r:=by rw [if_neg (show ¬ (false = true) by decide)] at H;exact H
   clear H
   have H:=H1
   clear H1
   obtain rfl:=Option.some.inj H
   go_enter Tryd.func61,Tryd.ntmps61
   go_wp2_with (first|(go_at_call 33;(with_reducible refine (impl_TextOk.calls a0 false _ A3.out).mono ?_);rintro e w8 ⟨rfl,hb⟩;have n0_:=m_ (l5_ (by repeat (first|(with_reducible first|exact HB.out|apply l1_|apply l2_|apply l3_)|exact HB.out)) hb);clear HB;have HB:=n0_;clear n0_;(try clear hb);(try clear hb2);(try clear hk);(try clear hi)))
   go_ret
   exact ⟨by first|rfl|(simp [e1_,e2_] <;> rfl)|(simp [*,e1_,e2_] <;> rfl)|(simp [e1_,e2_,pk_empty1,pk_empty2];done)|(simp [*,e1_,e2_,pk_empty1,pk_empty2];done),by repeat (first|(with_reducible first|exact HB.out|apply l1_|apply l2_|apply l3_)|exact HB.out)⟩
 ·rw [if_neg c2] at H
  have c2b0 : decide ((a0.size : Int) ≤ 24) = false:=decide_eq_false c2
  have c2b1 : decide (a0.size ≤ 24) = false:=decide_eq_false (by omega)
  clear c2
  obtain rfl:=Option.some.inj H
  go_enter Tryd.func61,Tryd.ntmps61
  go_wp2
  go_ret
  exact ⟨by first|rfl|(simp [e1_,e2_] <;> rfl)|(simp [*,e1_,e2_] <;> rfl)|(simp [e1_,e2_,pk_empty1,pk_empty2];done)|(simp [*,e1_,e2_,pk_empty1,pk_empty2];done),by repeat (first|(with_reducible first|exact HB.out|apply l1_|apply l2_|apply l3_)|exact HB.out)⟩

/-! ### slices_ContainsFunc_End: function 62 -/
/-- Is there a door's end in the row (its only use: with EndDoor). -/
def slices_ContainsFunc_End.f (l0 : List (S32)) : Option (Bool) := some (l0.any fun x => impl_EndDoor.f x.f0 x.f1 == some true)
theorem slices_ContainsFunc_End.door (a p : Int) : ∃ b, impl_EndDoor.f a p = some b := by
 unfold impl_EndDoor.f impl_within.f
 split
 ·split <;> exact ⟨_,rfl⟩
 ·exact ⟨_,rfl⟩
theorem slices_ContainsFunc_End.step {l : List (S32)} {x : Nat} (hx : x < l.length) (h : ∀ y ∈ l.take x, impl_EndDoor.f y.f0 y.f1 = some false) (h1 : impl_EndDoor.f (rd_T32 l (x : Int)).f0 (rd_T32 l (x : Int)).f1 = some false) :
  ∀ y ∈ l.take (x + 1),impl_EndDoor.f y.f0 y.f1 = some false:=by
 intro y hy
 rw [List.take_succ_eq_append_getElem hx,List.mem_append] at hy
 rcases hy with hy|hy
 ·exact h y hy
 ·have e : rd_T32 l (x : Int) = l[x]:=by
   unfold rd_T32
   rw [List.getD_eq_getElem?_getD,show ((x : Int)).toNat = x from rfl,List.getElem?_eq_getElem hx];rfl
  rw [List.mem_singleton.1 hy,← e];exact h1
theorem slices_ContainsFunc_End.hit {l : List (S32)} {x : Nat} (hx : x < l.length) (h1 : impl_EndDoor.f (rd_T32 l (x : Int)).f0 (rd_T32 l (x : Int)).f1 = some true) :
  (l.any fun x=>impl_EndDoor.f x.f0 x.f1 == some true) = true:=by
 have e : rd_T32 l (x : Int) = l[x]:=by
  unfold rd_T32
  rw [List.getD_eq_getElem?_getD,show ((x : Int)).toNat = x from rfl,List.getElem?_eq_getElem hx];rfl
 rw [List.any_eq_true]
 exact ⟨l[x],List.getElem_mem hx,by rw [← e,h1];rfl⟩
theorem slices_ContainsFunc_End.miss {l : List (S32)} {x : Nat} (hx : ¬ x < l.length) (h : ∀ y ∈ l.take x, impl_EndDoor.f y.f0 y.f1 = some false) :
  (l.any fun x=>impl_EndDoor.f x.f0 x.f1 == some true) = false:=by
 rw [List.take_of_length_le (by omega)] at h
 rw [List.any_eq_false]
 intro y hy
 rw [h y hy];decide
set_option maxHeartbeats 4000000 in
set_option maxRecDepth 100000 in
/-- slices.IndexFunc with EndDoor. -/
theorem slices_ContainsFunc_End.idx (A0 : Option Addr) (c0 : Nat) (l0 : List (S32)) (w : World) (hr0 : Kd.C k32 w A0 l0.length l0) (hc0 : l0.length ≤ c0) :
  Calls Tryd.prog 80 #[.slice A0 l0.length c0,.func (.func 25) #[] #[]] w fun e w'=>∃ i : Int,e = .returned (.int .i64 i) ∧ decide (0 ≤ i) = (l0.any fun x=>impl_EndDoor.f x.f0 x.f1 == some true) ∧ Below w.heap.size w w':=by
 have hu:=Tryd.underlying32
 have HL:=m_ (Kd.C_max hr0)
 have HR0:=m_ hr0
 have HC0:=m_ hc0
 clear hr0 hc0
 have HB:=m_ (Below.refl w.heap.size w)
 go_enter Tryd.func80,Tryd.ntmps80
 go_wp2
 go_loopg [5,8] l0.length (fun kq _ v8 w'=>∃ x : Nat,v8 = .int .i64 x ∧ Aside0 (x ≤ l0.length ∧ l0.length - x ≤ kq) ∧ Aside0 (Below w.heap.size w w') ∧ Aside0 (∀ y ∈ l0.take x,impl_EndDoor.f y.f0 y.f1 = some false))
 case atStart=>exact ⟨0,rfl,⟨by omega⟩,HB,⟨by simp⟩⟩
 case round =>
  clear HB
  obtain ⟨x,rfl,HX,HB,HA⟩:=hrel
  by_cases hlt : x < l0.length
  ·have c1 : decide ((x : Int) < (l0.length : Int)) = true:=decide_eq_true (Int.ofNat_lt.2 hlt)
   have p1 : 0 ≤ (x : Int):=Int.natCast_nonneg _
   have q1 : (x : Int) < (l0.length : Int):=Int.ofNat_lt.2 hlt
   have HT:=m_ hlt
   clear hlt
   obtain ⟨ad1,e1,hx0,hx1⟩:=at_T32 HR0.out (x : Int) p1 q1
   cases e1
   replace hx0:=(HB.out.cell (World.block_lt_of_cell? w _ hx0)).trans hx0
   replace hx1:=(HB.out.cell (World.block_lt_of_cell? w _ hx1)).trans hx1
   replace hx0 : wr.cell? (ad1.add (x * 2)) = some (.int .i64 (rd_T32 l0 (x : Int)).f0):=hx0
   replace hx1 : wr.cell? ⟨(ad1.add (x * 2)).block,(ad1.add (x * 2)).off + 1,none⟩ = some (.int .i64 (rd_T32 l0 (x : Int)).f1):=hx1
   replace p1:=eq_true p1
   replace q1:=eq_true q1
   obtain ⟨b,hb⟩:=slices_ContainsFunc_End.door (rd_T32 l0 (x : Int)).f0 (rd_T32 l0 (x : Int)).f1
   have HD:=m_ hb
   clear hb
   cases b with
   | true =>
    go_wp2_with (go_at_call 25;refine (impl_EndDoor.calls _ _ _ _ HD.out).mono ?_;rintro e w' ⟨rfl,hb'⟩)
    go_ret
    exact ⟨_,rfl,by rw [slices_ContainsFunc_End.hit HT.out HD.out];exact decide_eq_true (Int.natCast_nonneg _),HB.out.trans (hb'.mono HB.out.size)⟩
   | false =>
    go_wp2_with (go_at_call 25;refine (impl_EndDoor.calls _ _ _ _ HD.out).mono ?_;rintro e w' ⟨rfl,hb'⟩)
    go_roundg (l0.length - (x + 1))
    case measure=>have:=HX.out;have:=HT.out;omega
    case rel=>exact ⟨x + 1,congrArg (Value.int .i64) ((IntWalk.wrap64_in _ ⟨by omega,by have:=HT.out;have:=HL.out;omega⟩).trans rfl),⟨by have:=HT.out;omega⟩,⟨HB.out.trans (hb'.mono HB.out.size)⟩,⟨slices_ContainsFunc_End.step HT.out HA.out HD.out⟩⟩
  ·have c1 : decide ((x : Int) < (l0.length : Int)) = false:=decide_eq_false (fun h=>hlt (Int.ofNat_lt.1 h))
   have c2 : ¬ (x : Int) < (l0.length : Int):=fun h=>hlt (Int.ofNat_lt.1 h)
   have HT:=m_ hlt
   go_wp2
   go_ret
   exact ⟨_,rfl,by rw [slices_ContainsFunc_End.miss HT.out HA.out];rfl,HB.out⟩
set_option maxHeartbeats 4000000 in
set_option maxRecDepth 100000 in
theorem slices_ContainsFunc_End.calls (A0 : Option Addr) (c0 : Nat) (l0 : List (S32)) (r : Bool) (w : World) (hr0 : Kd.C k32 w A0 l0.length l0) (hc0 : l0.length ≤ c0) (h : slices_ContainsFunc_End.f l0 = some r) :
  Calls Tryd.prog 62 #[.slice A0 l0.length c0,.func (.func 25) #[] #[]] w fun e w'=>e = .returned (.bool r) ∧ Below w.heap.size w w':=by
 have HR:=m_ (Option.some.inj h)
 have HI:=m_ (slices_ContainsFunc_End.idx A0 c0 l0 w hr0 hc0)
 clear h hr0 hc0
 go_enter Tryd.func62,Tryd.ntmps62
 go_wp2_with (go_at_call 80;refine HI.out.mono ?_;rintro e w' ⟨i,rfl,hi,hb'⟩)
 go_ret
 exact ⟨by rw [← HR.out,← hi];try rfl,hb'⟩

end Go.Proofs.YtclhmoghkcnkmaaDoor.A
