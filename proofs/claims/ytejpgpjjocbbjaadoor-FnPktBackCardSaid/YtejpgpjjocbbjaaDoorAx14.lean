-- Printed by myprint.py (wip/tools) out of the translation. Not trusted: Lean checks it.
import Derived.Test.YtejpgpjjocbbjaaDoorAx0
import Derived.Test.YtejpgpjjocbbjaaDoorAx1
import Derived.Test.YtejpgpjjocbbjaaDoorAx3
import Derived.Test.YtejpgpjjocbbjaaDoorAx4
import Derived.Test.YtejpgpjjocbbjaaDoorAx5
import Derived.Test.YtejpgpjjocbbjaaDoorAx7
import Derived.Test.YtejpgpjjocbbjaaDoorAx11
namespace Go.Proofs.YtejpgpjjocbbjaaDoor.A
open Go.RowKit Go.Proofs.YtejpgpjjocbbjaaDoorW.PrintWords Go.Proofs.YtejpgpjjocbbjaaDoorW.PrintLast Go.Proofs.YtejpgpjjocbbjaaDoorW.PrintMore
attribute [local go_sem] max2_int min2_int max_two min_two max_three min_three max_four min_four   -- for this text's walks alone
set_option linter.unusedVariables false
set_option linter.unusedSimpArgs false

attribute [local go_sem high] eqA26
/-! ### laws_FnPktBack: function 3 -/
def laws_FnPktBack.j0 : Nat → ByteArray → Bool → Int → Int → Int → Int → Int → Int → ByteArray → Option (Bool)
 | 0, _, _, _, _, _, _, _, _, _ => none
 | k + 1, x4, x21, x304000, x304001, x304002, x304003, x304004, x304005, x304006 => if x21 = true then ((spec_PktText.f k x304000 x304001 x304002 x304003 x304004 x304005 x304006).bind fun t306 => (some (x4.toList == t306.toList))) else ((impl_PktRead.f k x4).bind fun bt307 => (if bt307.2.2.2.2.2.2.2 = true then (if (bt307.1 == x304000 && ((bt307.2.1 == x304001 && (bt307.2.2.1 == x304002)) && ((bt307.2.2.2.1 == x304003 && (bt307.2.2.2.2.1 == x304004)) && (bt307.2.2.2.2.2.1 == x304005 && (bt307.2.2.2.2.2.2.1.toList == x304006.toList))))) = true then ((impl_PktOk.f x304000 x304001 x304002 x304003 x304004 x304005 x304006).bind fun t316 => (some t316)) else (some false)) else (some false)))
def laws_FnPktBack.f (k : Nat) (l0 : List Int) : Option (Bool) := if (l0.length : Int) > 1048576 then (some true) else ((spec_DrawPktText.f k l0).bind fun bt296 => ((impl_PktText.f bt296.1 bt296.2.1 bt296.2.2.1 bt296.2.2.2.1 bt296.2.2.2.2.1 bt296.2.2.2.2.2.1 bt296.2.2.2.2.2.2).bind fun t304 => ((spec_PktText.f k bt296.1 bt296.2.1 bt296.2.2.1 bt296.2.2.2.1 bt296.2.2.2.2.1 bt296.2.2.2.2.2.1 bt296.2.2.2.2.2.2).bind fun t305 => (if t304.toList = t305.toList then (laws_FnPktBack.j0 k t304 t304.toList.isEmpty bt296.1 bt296.2.1 bt296.2.2.1 bt296.2.2.2.1 bt296.2.2.2.2.1 bt296.2.2.2.2.2.1 bt296.2.2.2.2.2.2) else (laws_FnPktBack.j0 k t304 true bt296.1 bt296.2.1 bt296.2.2.1 bt296.2.2.2.1 bt296.2.2.2.2.1 bt296.2.2.2.2.2.1 bt296.2.2.2.2.2.2)))))
theorem laws_FnPktBack.mono_l : ∀ k, (∀ y0 y1 y2 y3 y4 y5 y6 y7 y8, LeO (laws_FnPktBack.j0 k y0 y1 y2 y3 y4 y5 y6 y7 y8) (laws_FnPktBack.j0 (k + 1) y0 y1 y2 y3 y4 y5 y6 y7 y8))
 | 0 => fun _ _ _ _ _ _ _ _ _ r h => by simp [laws_FnPktBack.j0] at h
 | k + 1 => by
  have ih0:=laws_FnPktBack.mono_l k
  ·intro y0 y1 y2 y3 y4 y5 y6 y7 y8
   unfold laws_FnPktBack.j0
   repeat' first
   | (with_reducible exact ih0 _ _ _ _ _ _ _ _ _)
   | (with_reducible exact impl_PktRead.mono _ _)
   | (with_reducible exact spec_DrawPktText.mono _ _)
   | (with_reducible exact spec_PktText.mono _ _ _ _ _ _ _ _)
   | (with_reducible exact LeO.refl _)
   | (with_reducible exact LeO.none _)
   | (with_reducible refine LeO.ite ?_ ?_)
   | (with_reducible refine LeO.bind ?_ (fun _ => ?_))
   | exact ih0 _ _ _ _ _ _ _ _ _
   | exact impl_PktRead.mono _ _
   | exact spec_DrawPktText.mono _ _
   | exact spec_PktText.mono _ _ _ _ _ _ _ _
   | exact LeO.none _
   | refine LeO.ite ?_ ?_
   | refine LeO.bind ?_ (fun _ => ?_)
theorem laws_FnPktBack.mono : ∀ a0 k, LeO (laws_FnPktBack.f k a0) (laws_FnPktBack.f (k + 1) a0) := by
 intro a0 k
 have ih0:=laws_FnPktBack.mono_l k
 unfold laws_FnPktBack.f
 repeat' first
   | (with_reducible exact ih0 _ _ _ _ _ _ _ _ _)
   | (with_reducible exact impl_PktRead.mono _ _)
   | (with_reducible exact spec_DrawPktText.mono _ _)
   | (with_reducible exact spec_PktText.mono _ _ _ _ _ _ _ _)
   | (with_reducible exact LeO.refl _)
   | (with_reducible exact LeO.none _)
   | (with_reducible refine LeO.ite ?_ ?_)
   | (with_reducible refine LeO.bind ?_ (fun _ => ?_))
   | exact ih0 _ _ _ _ _ _ _ _ _
   | exact impl_PktRead.mono _ _
   | exact spec_DrawPktText.mono _ _
   | exact spec_PktText.mono _ _ _ _ _ _ _ _
   | exact LeO.none _
   | refine LeO.ite ?_ ?_
   | refine LeO.bind ?_ (fun _ => ?_)
set_option maxHeartbeats 8000000 in
set_option maxRecDepth 100000 in
theorem laws_FnPktBack.calls (k : Nat) (A0 : Option Addr) (c0 : Nat) (l0 : List Int) (r : Bool) (w : World) (hr0 : Kd.C (Kd.int .u8) w A0 l0.length l0) (hc0 : l0.length ≤ c0) (hG : GV w) (h : laws_FnPktBack.f k l0 = some r) :
  Calls Tryd.prog 3 #[.slice A0 l0.length c0] w fun e w'=>e = .returned (.bool r) ∧ Below w.heap.size w w':=by
 have hu26:=Tryd.underlying26
 have HG:=m_ hG
 clear hG
 have HR0:=m_ hr0
 have HC0:=m_ hc0
 clear hr0 hc0
 have HB:=m_ (Below.refl w.heap.size w)
 have H : (if (l0.length : Int) > 1048576 then (some true) else ((spec_DrawPktText.f k l0).bind fun bt296=>((impl_PktText.f bt296.1 bt296.2.1 bt296.2.2.1 bt296.2.2.2.1 bt296.2.2.2.2.1 bt296.2.2.2.2.2.1 bt296.2.2.2.2.2.2).bind fun t304=>((spec_PktText.f k bt296.1 bt296.2.1 bt296.2.2.1 bt296.2.2.2.1 bt296.2.2.2.2.1 bt296.2.2.2.2.2.1 bt296.2.2.2.2.2.2).bind fun t305=>(if t304.toList = t305.toList then (laws_FnPktBack.j0 k t304 t304.toList.isEmpty bt296.1 bt296.2.1 bt296.2.2.1 bt296.2.2.2.1 bt296.2.2.2.2.1 bt296.2.2.2.2.2.1 bt296.2.2.2.2.2.2) else (laws_FnPktBack.j0 k t304 true bt296.1 bt296.2.1 bt296.2.2.1 bt296.2.2.2.1 bt296.2.2.2.2.1 bt296.2.2.2.2.2.1 bt296.2.2.2.2.2.2)))))) = some r:=h
 clear h
 by_cases c2 : (l0.length : Int) > 1048576
 ·rw [if_pos c2] at H
  have c2b0 : decide (1048576 < (l0.length : Int)) = true:=decide_eq_true c2
  have c2b1 : decide (1048576 < l0.length) = true:=decide_eq_true (by omega)
  clear c2
  obtain rfl:=Option.some.inj H
  go_enter Tryd.func3,Tryd.ntmps3
  go_wp2
  go_ret
  exact ⟨by first|rfl|(simp [e1_,e2_] <;> rfl)|(simp [*,e1_,e2_] <;> rfl)|(simp [e1_,e2_,pk_empty1,pk_empty2];done)|(simp [*,e1_,e2_,pk_empty1,pk_empty2];done),by repeat (first|(with_reducible first|exact HB.out|apply l1_|apply l2_|apply l3_)|exact HB.out)⟩
 ·rw [if_neg c2] at H
  have c2b0 : decide (1048576 < (l0.length : Int)) = false:=decide_eq_false c2
  have c2b1 : decide (1048576 < l0.length) = false:=decide_eq_false (by omega)
  clear c2
  replace H:=Option.bind_eq_some_iff.mp H
  obtain ⟨⟨t296,t297,t298,t299,t300,t301,t302⟩,A30,H⟩:=H
  replace H : ((impl_PktText.f t296 t297 t298 t299 t300 t301 t302).bind fun t304=>((spec_PktText.f k t296 t297 t298 t299 t300 t301 t302).bind fun t305=>(if t304.toList = t305.toList then (laws_FnPktBack.j0 k t304 t304.toList.isEmpty t296 t297 t298 t299 t300 t301 t302) else (laws_FnPktBack.j0 k t304 true t296 t297 t298 t299 t300 t301 t302)))) = some r:=H
  have A3:=m_ A30
  clear A30
  replace H:=Option.bind_eq_some_iff.mp H
  obtain ⟨t304,A40,H⟩:=H
  replace H : ((spec_PktText.f k t296 t297 t298 t299 t300 t301 t302).bind fun t305=>(if t304.toList = t305.toList then (laws_FnPktBack.j0 k t304 t304.toList.isEmpty t296 t297 t298 t299 t300 t301 t302) else (laws_FnPktBack.j0 k t304 true t296 t297 t298 t299 t300 t301 t302))) = some r:=H
  have A4:=m_ A40
  clear A40
  have HC5:=m_ H
  clear H
  go_enter Tryd.func3,Tryd.ntmps3
  go_upto_region 5 with (first|((with_reducible refine gate_callee (f:=7) rfl ?_);refine goesL_ (some 11) rfl rfl Tryd.func7 (by kernel_rfl) rfl #[.slice A0 l0.length c0] rfl (by (try simp only [List.map_toArray,List.map_cons,List.map_nil]);first|done|rfl|(simp only [List.length_drop,List.length_take];rfl)) ?_;(with_reducible refine (spec_DrawPktText.calls k _ _ l0 t296 t297 t298 t299 t300 t301 t302 _ ?side1 ?side2 A3.out).mono ?_);(case side1=>repeat (first|exact HR0.out|(with_reducible refine Kd.C_alloc ?_ _)|(with_reducible refine Kd.C_drewN ?_ _)|(with_reducible refine Kd.C_drew ?_)));(case side2=>exact HC0.out);rintro e w6 ⟨rfl,hb⟩;refine ⟨_,rfl,?_⟩;have n0_:=m_ (l5_ (by repeat (first|(with_reducible first|exact HB.out|apply l1_|apply l2_|apply l3_)|exact HB.out)) hb);clear HB;have HB:=n0_;clear n0_;(try clear hb);(try clear hb2);(try clear hk);(try clear hi))|((with_reducible refine gate_dst (N:=3) rfl ?_);refine box_event ?hg (N:=3) ?hd (cs:=#[.int .i64 0,.int .i64 0,.int .i64 0,.int .i64 0,.int .i64 0,.int .i64 0,.string (⟨#[]⟩ : ByteArray)]) (t:=26) ?hr ?_;(case hd=>rfl);(case hg=>rfl);(case hr=>first|(go_simp;done)|(go_simp;rfl));intro gb303 hg w7 hbox hb;have n0_:=m_ (l5_ (by repeat (first|(with_reducible first|exact HB.out|apply l1_|apply l2_|apply l3_)|exact HB.out)) hb);have n1_:=m_ (hbox);have n2_:=m_ ((by rw [hg];exact (l6_ (by repeat (first|(with_reducible first|exact HB.out|apply l1_|apply l2_|apply l3_)|exact HB.out))) : w.heap.size ≤ gb303));have n3_:=m_ ((by rw [hg];exact (l6_ (by repeat (first|(with_reducible first|exact HB.out|apply l1_|apply l2_|apply l3_)|exact HB.out))) : w.heap.size ≤ gb303));clear HB;have HB:=n0_;have BK303:=n1_;have GW303:=n2_;have GE303:=n3_;clear n0_ n1_ n2_ n3_;clear hb hbox hg;have hcz8_0 : w7.cell? ⟨gb303,0,none⟩ = some (.int .i64 0):=(c_ BK303.out 0).trans rfl;have hcz8_1 : w7.cell? ⟨gb303,1,none⟩ = some (.int .i64 0):=(c_ BK303.out 1).trans rfl;have hcz8_2 : w7.cell? ⟨gb303,2,none⟩ = some (.int .i64 0):=(c_ BK303.out 2).trans rfl;have hcz8_3 : w7.cell? ⟨gb303,3,none⟩ = some (.int .i64 0):=(c_ BK303.out 3).trans rfl;have hcz8_4 : w7.cell? ⟨gb303,4,none⟩ = some (.int .i64 0):=(c_ BK303.out 4).trans rfl;have hcz8_5 : w7.cell? ⟨gb303,5,none⟩ = some (.int .i64 0):=(c_ BK303.out 5).trans rfl;have hcz8_6 : w7.cell? ⟨gb303,6,none⟩ = some (.string (⟨#[]⟩ : ByteArray)):=(c_ BK303.out 6).trans rfl;have hfz8_0:=f_ BK303.out 0;have hfz8_1:=f_ BK303.out 1;have hfz8_2:=f_ BK303.out 2;have hfz8_3:=f_ BK303.out 3;have hfz8_4:=f_ BK303.out 4;have hfz8_5:=f_ BK303.out 5;have hfz8_6:=f_ BK303.out 6)|((with_reducible refine gate_callee (f:=8) rfl ?_);refine goesL_ (some 13) rfl rfl Tryd.func8 (by kernel_rfl) rfl #[.agg #[.int .i64 t296,.int .i64 t297,.int .i64 t298,.int .i64 t299,.int .i64 t300,.int .i64 t301,.string t302]] rfl (by (try simp only [List.map_toArray,List.map_cons,List.map_nil]);first|done|rfl|(simp only [List.length_drop,List.length_take];rfl)) ?_;(with_reducible refine (impl_PktText.calls t296 t297 t298 t299 t300 t301 t302 t304 _ A4.out).mono ?_);rintro e w9 ⟨rfl,hb⟩;refine ⟨_,rfl,?_⟩;have n0_:=m_ (blk_below (g:=gb303) (o:=.cells #[.int .i64 t296,.int .i64 t297,.int .i64 t298,.int .i64 t299,.int .i64 t300,.int .i64 t301,.string t302] 26 (0,0)) (by (with_reducible repeat first|apply b1_|apply b2_|apply b3_);refine blk_put (cs:=#[.int .i64 t296,.int .i64 t297,.int .i64 t298,.int .i64 t299,.int .i64 t300,.int .i64 t301,.string (⟨#[]⟩ : ByteArray)]) ?_ 6 _ rfl;(with_reducible repeat first|apply b1_|apply b2_|apply b3_);refine blk_put (cs:=#[.int .i64 t296,.int .i64 t297,.int .i64 t298,.int .i64 t299,.int .i64 t300,.int .i64 0,.string (⟨#[]⟩ : ByteArray)]) ?_ 5 _ rfl;(with_reducible repeat first|apply b1_|apply b2_|apply b3_);refine blk_put (cs:=#[.int .i64 t296,.int .i64 t297,.int .i64 t298,.int .i64 t299,.int .i64 0,.int .i64 0,.string (⟨#[]⟩ : ByteArray)]) ?_ 4 _ rfl;(with_reducible repeat first|apply b1_|apply b2_|apply b3_);refine blk_put (cs:=#[.int .i64 t296,.int .i64 t297,.int .i64 t298,.int .i64 0,.int .i64 0,.int .i64 0,.string (⟨#[]⟩ : ByteArray)]) ?_ 3 _ rfl;(with_reducible repeat first|apply b1_|apply b2_|apply b3_);refine blk_put (cs:=#[.int .i64 t296,.int .i64 t297,.int .i64 0,.int .i64 0,.int .i64 0,.int .i64 0,.string (⟨#[]⟩ : ByteArray)]) ?_ 2 _ rfl;(with_reducible repeat first|apply b1_|apply b2_|apply b3_);refine blk_put (cs:=#[.int .i64 t296,.int .i64 0,.int .i64 0,.int .i64 0,.int .i64 0,.int .i64 0,.string (⟨#[]⟩ : ByteArray)]) ?_ 1 _ rfl;(with_reducible repeat first|apply b1_|apply b2_|apply b3_);refine blk_put (cs:=#[.int .i64 0,.int .i64 0,.int .i64 0,.int .i64 0,.int .i64 0,.int .i64 0,.string (⟨#[]⟩ : ByteArray)]) ?_ 0 _ rfl;(with_reducible repeat first|apply b1_|apply b2_|apply b3_);exact BK303.out) hb);have n1_:=m_ (l5_ (by repeat (first|(with_reducible first|exact HB.out|apply l1_|apply l2_|apply l3_|refine l4_ ?_ GE303.out)|exact HB.out)) hb);clear BK303;clear HB;have BK303:=n0_;have HB:=n1_;clear n0_ n1_;(try clear hb);(try clear hb2);(try clear hk);(try clear hi)))
  (try simp only [Act.put,s1_,s2_,s3_])
  go_cut [21] (fun v21 wc=>∃ (kq : Nat) (x21_4 : Bool),v21 = .bool x21_4 ∧ Aside0 (laws_FnPktBack.j0 kq t304 x21_4 t296 t297 t298 t299 t300 t301 t302 = some r) ∧ Aside0 (kq ≤ k) ∧ Aside0 (wc.heap[gb303]? = some (.cells #[.int .i64 t296,.int .i64 t297,.int .i64 t298,.int .i64 t299,.int .i64 t300,.int .i64 t301,.string t302] 26 (0,0))) ∧ Aside0 (Below w.heap.size w wc))
  case first =>
   have H:=HC5.out
   clear HC5
   replace H:=Option.bind_eq_some_iff.mp H
   obtain ⟨t305,A100,H⟩:=H
   replace H : (if t304.toList = t305.toList then (laws_FnPktBack.j0 k t304 t304.toList.isEmpty t296 t297 t298 t299 t300 t301 t302) else (laws_FnPktBack.j0 k t304 true t296 t297 t298 t299 t300 t301 t302)) = some r:=H
   have A10:=m_ A100
   clear A100
   by_cases c11 : t304.toList = t305.toList
   ·rw [if_pos c11] at H
    have c11b0 : (t304.toList == t305.toList) = true:=beq_iff_eq.mpr c11
    have c11b1 : (t304.toList != t305.toList) = false:=bne_eq_false_iff_eq.mpr c11
    clear c11
    (first|rw [c11b0]|(simp only [i64_w,i32_w];rw [c11b0])|skip)
    have H':=m_ H
    clear H
    have hcz12_0 : w9.cell? ⟨gb303,0,none⟩ = some (.int .i64 t296):=(c_ BK303.out 0).trans rfl
    have hcz12_1 : w9.cell? ⟨gb303,1,none⟩ = some (.int .i64 t297):=(c_ BK303.out 1).trans rfl
    have hcz12_2 : w9.cell? ⟨gb303,2,none⟩ = some (.int .i64 t298):=(c_ BK303.out 2).trans rfl
    have hcz12_3 : w9.cell? ⟨gb303,3,none⟩ = some (.int .i64 t299):=(c_ BK303.out 3).trans rfl
    have hcz12_4 : w9.cell? ⟨gb303,4,none⟩ = some (.int .i64 t300):=(c_ BK303.out 4).trans rfl
    have hcz12_5 : w9.cell? ⟨gb303,5,none⟩ = some (.int .i64 t301):=(c_ BK303.out 5).trans rfl
    have hcz12_6 : w9.cell? ⟨gb303,6,none⟩ = some (.string t302):=(c_ BK303.out 6).trans rfl
    have hfz12_0:=f_ BK303.out 0
    have hfz12_1:=f_ BK303.out 1
    have hfz12_2:=f_ BK303.out 2
    have hfz12_3:=f_ BK303.out 3
    have hfz12_4:=f_ BK303.out 4
    have hfz12_5:=f_ BK303.out 5
    have hfz12_6:=f_ BK303.out 6
    go_wp2_with (first|((with_reducible refine gate_callee (f:=9) rfl ?_);refine goesL_ (some 16) rfl rfl Tryd.func9 (by kernel_rfl) rfl #[.agg #[.int .i64 t296,.int .i64 t297,.int .i64 t298,.int .i64 t299,.int .i64 t300,.int .i64 t301,.string t302]] rfl (by (try simp only [List.map_toArray,List.map_cons,List.map_nil]);first|done|rfl|(simp only [List.length_drop,List.length_take];rfl)) ?_;(with_reducible refine (spec_PktText.calls k t296 t297 t298 t299 t300 t301 t302 t305 _ A10.out).mono ?_);rintro e w13 ⟨rfl,hb⟩;refine ⟨_,rfl,?_⟩;have n0_:=m_ (blk_below (g:=gb303) (o:=.cells #[.int .i64 t296,.int .i64 t297,.int .i64 t298,.int .i64 t299,.int .i64 t300,.int .i64 t301,.string t302] 26 (0,0)) (by (with_reducible repeat first|apply b1_|apply b2_|apply b3_);exact BK303.out) hb);have n1_:=m_ (l5_ (by repeat (first|(with_reducible first|exact HB.out|apply l1_|apply l2_|apply l3_|refine l4_ ?_ GE303.out)|exact HB.out)) hb);clear BK303;clear HB;have BK303:=n0_;have HB:=n1_;clear n0_ n1_;(try clear hb);(try clear hb2);(try clear hk);(try clear hi)))
    go_meet
    case rel=>exact ⟨_,(t304.toList.isEmpty),(by first|rfl|(simp;done)|(simp [*];done)),H',⟨by first|omega|exact Nat.le_refl _⟩,⟨by (with_reducible repeat first|apply b1_|apply b2_|apply b3_);exact BK303.out⟩,⟨by repeat (first|(with_reducible first|exact HB.out|apply l1_|apply l2_|apply l3_|refine l4_ ?_ GE303.out)|exact HB.out)⟩⟩
   ·rw [if_neg c11] at H
    have c11b0 : (t304.toList == t305.toList) = false:=beq_eq_false_iff_ne.mpr c11
    have c11b1 : (t304.toList != t305.toList) = true:=bne_iff_ne.mpr c11
    (first|rw [c11b0]|(simp only [i64_w,i32_w];rw [c11b0])|skip)
    have H':=m_ H
    clear H
    have hcz14_0 : w9.cell? ⟨gb303,0,none⟩ = some (.int .i64 t296):=(c_ BK303.out 0).trans rfl
    have hcz14_1 : w9.cell? ⟨gb303,1,none⟩ = some (.int .i64 t297):=(c_ BK303.out 1).trans rfl
    have hcz14_2 : w9.cell? ⟨gb303,2,none⟩ = some (.int .i64 t298):=(c_ BK303.out 2).trans rfl
    have hcz14_3 : w9.cell? ⟨gb303,3,none⟩ = some (.int .i64 t299):=(c_ BK303.out 3).trans rfl
    have hcz14_4 : w9.cell? ⟨gb303,4,none⟩ = some (.int .i64 t300):=(c_ BK303.out 4).trans rfl
    have hcz14_5 : w9.cell? ⟨gb303,5,none⟩ = some (.int .i64 t301):=(c_ BK303.out 5).trans rfl
    have hcz14_6 : w9.cell? ⟨gb303,6,none⟩ = some (.string t302):=(c_ BK303.out 6).trans rfl
    have hfz14_0:=f_ BK303.out 0
    have hfz14_1:=f_ BK303.out 1
    have hfz14_2:=f_ BK303.out 2
    have hfz14_3:=f_ BK303.out 3
    have hfz14_4:=f_ BK303.out 4
    have hfz14_5:=f_ BK303.out 5
    have hfz14_6:=f_ BK303.out 6
    go_wp2_with (first|((with_reducible refine gate_callee (f:=9) rfl ?_);refine goesL_ (some 16) rfl rfl Tryd.func9 (by kernel_rfl) rfl #[.agg #[.int .i64 t296,.int .i64 t297,.int .i64 t298,.int .i64 t299,.int .i64 t300,.int .i64 t301,.string t302]] rfl (by (try simp only [List.map_toArray,List.map_cons,List.map_nil]);first|done|rfl|(simp only [List.length_drop,List.length_take];rfl)) ?_;(with_reducible refine (spec_PktText.calls k t296 t297 t298 t299 t300 t301 t302 t305 _ A10.out).mono ?_);rintro e w15 ⟨rfl,hb⟩;refine ⟨_,rfl,?_⟩;have n0_:=m_ (blk_below (g:=gb303) (o:=.cells #[.int .i64 t296,.int .i64 t297,.int .i64 t298,.int .i64 t299,.int .i64 t300,.int .i64 t301,.string t302] 26 (0,0)) (by (with_reducible repeat first|apply b1_|apply b2_|apply b3_);exact BK303.out) hb);have n1_:=m_ (l5_ (by repeat (first|(with_reducible first|exact HB.out|apply l1_|apply l2_|apply l3_|refine l4_ ?_ GE303.out)|exact HB.out)) hb);clear BK303;clear HB;have BK303:=n0_;have HB:=n1_;clear n0_ n1_;(try clear hb);(try clear hb2);(try clear hk);(try clear hi)))
    go_meet
    case rel=>exact ⟨_,(true),(by first|rfl|(simp;done)|(simp [*];done)),H',⟨by first|omega|exact Nat.le_refl _⟩,⟨by (with_reducible repeat first|apply b1_|apply b2_|apply b3_);exact BK303.out⟩,⟨by repeat (first|(with_reducible first|exact HB.out|apply l1_|apply l2_|apply l3_|refine l4_ ?_ GE303.out)|exact HB.out)⟩⟩
  case rest =>
   clear HC5
   try clear c1
   try clear c2
   try clear c2b0
   try clear c2b1
   try clear p2
   try clear c3
   try clear c7
   try clear c8
   try clear c9
   try clear c11
   try clear c11b0
   try clear c11b1
   try clear hcz12_0
   try clear hcz12_1
   try clear hcz12_2
   try clear hcz12_3
   try clear hcz12_4
   try clear hcz12_5
   try clear hcz12_6
   try clear hcz14_0
   try clear hcz14_1
   try clear hcz14_2
   try clear hcz14_3
   try clear hcz14_4
   try clear hcz14_5
   try clear hcz14_6
   try clear hcz8_0
   try clear hcz8_1
   try clear hcz8_2
   try clear hcz8_3
   try clear hcz8_4
   try clear hcz8_5
   try clear hcz8_6
   try clear hfz12_0
   try clear hfz12_1
   try clear hfz12_2
   try clear hfz12_3
   try clear hfz12_4
   try clear hfz12_5
   try clear hfz12_6
   try clear hfz14_0
   try clear hfz14_1
   try clear hfz14_2
   try clear hfz14_3
   try clear hfz14_4
   try clear hfz14_5
   try clear hfz14_6
   try clear hfz8_0
   try clear hfz8_1
   try clear hfz8_2
   try clear hfz8_3
   try clear hfz8_4
   try clear hfz8_5
   try clear hfz8_6
   obtain ⟨kq,x21_4,rfl,HA,HJ4,BK303,HB⟩:=hcut
   cases kq with
   | zero => exact absurd HA.out (by simp [laws_FnPktBack.j0])
   | succ kj4 =>
    have H:=HA.out
    clear HA
    simp only [laws_FnPktBack.j0] at H
    by_cases c16 : x21_4 = true
    ·subst c16
     have H1 : ((spec_PktText.f kj4 t296 t297 t298 t299 t300 t301 t302).bind fun t306=>(some (t304.toList == t306.toList))) = some r:=by rw [if_pos rfl] at H;exact H
     clear H
     have H:=H1
     clear H1
     replace H:=Option.bind_eq_some_iff.mp H
     obtain ⟨t306,A170,H⟩:=H
     replace H : (some (t304.toList == t306.toList)) = some r:=H
     have A17:=m_ A170
     clear A170
     obtain rfl:=Option.some.inj H
     have hcz18_0 : wc.cell? ⟨gb303,0,none⟩ = some (.int .i64 t296):=(c_ BK303.out 0).trans rfl
     have hcz18_1 : wc.cell? ⟨gb303,1,none⟩ = some (.int .i64 t297):=(c_ BK303.out 1).trans rfl
     have hcz18_2 : wc.cell? ⟨gb303,2,none⟩ = some (.int .i64 t298):=(c_ BK303.out 2).trans rfl
     have hcz18_3 : wc.cell? ⟨gb303,3,none⟩ = some (.int .i64 t299):=(c_ BK303.out 3).trans rfl
     have hcz18_4 : wc.cell? ⟨gb303,4,none⟩ = some (.int .i64 t300):=(c_ BK303.out 4).trans rfl
     have hcz18_5 : wc.cell? ⟨gb303,5,none⟩ = some (.int .i64 t301):=(c_ BK303.out 5).trans rfl
     have hcz18_6 : wc.cell? ⟨gb303,6,none⟩ = some (.string t302):=(c_ BK303.out 6).trans rfl
     have hfz18_0:=f_ BK303.out 0
     have hfz18_1:=f_ BK303.out 1
     have hfz18_2:=f_ BK303.out 2
     have hfz18_3:=f_ BK303.out 3
     have hfz18_4:=f_ BK303.out 4
     have hfz18_5:=f_ BK303.out 5
     have hfz18_6:=f_ BK303.out 6
     go_wp2_with (first|((with_reducible refine gate_callee (f:=9) rfl ?_);refine goesL_ (some 24) rfl rfl Tryd.func9 (by kernel_rfl) rfl #[.agg #[.int .i64 t296,.int .i64 t297,.int .i64 t298,.int .i64 t299,.int .i64 t300,.int .i64 t301,.string t302]] rfl (by (try simp only [List.map_toArray,List.map_cons,List.map_nil]);first|done|rfl|(simp only [List.length_drop,List.length_take];rfl)) ?_;(with_reducible refine (spec_PktText.calls kj4 t296 t297 t298 t299 t300 t301 t302 t306 _ A17.out).mono ?_);rintro e w19 ⟨rfl,hb⟩;refine ⟨_,rfl,?_⟩;have n0_:=m_ (blk_below (g:=gb303) (o:=.cells #[.int .i64 t296,.int .i64 t297,.int .i64 t298,.int .i64 t299,.int .i64 t300,.int .i64 t301,.string t302] 26 (0,0)) (by (with_reducible repeat first|apply b1_|apply b2_|apply b3_);exact BK303.out) hb);have n1_:=m_ (l5_ (by repeat (first|(with_reducible first|exact HB.out|apply l1_|apply l2_|apply l3_|refine l4_ ?_ GE303.out)|exact HB.out)) hb);clear BK303;clear HB;have BK303:=n0_;have HB:=n1_;clear n0_ n1_;(try clear hb);(try clear hb2);(try clear hk);(try clear hi)))
     go_ret
     exact ⟨by first|rfl|(simp [e1_,e2_] <;> rfl)|(simp [*,e1_,e2_] <;> rfl)|(simp [e1_,e2_,pk_empty1,pk_empty2];done)|(simp [*,e1_,e2_,pk_empty1,pk_empty2];done),by repeat (first|(with_reducible first|exact HB.out|apply l1_|apply l2_|apply l3_|refine l4_ ?_ GE303.out)|exact HB.out)⟩
    ·replace c16:=Bool.eq_false_iff.mpr c16
     subst c16
     have H1 : ((impl_PktRead.f kj4 t304).bind fun bt307=>(if bt307.2.2.2.2.2.2.2 = true then (if (bt307.1 == t296 && ((bt307.2.1 == t297 && (bt307.2.2.1 == t298)) && ((bt307.2.2.2.1 == t299 && (bt307.2.2.2.2.1 == t300)) && (bt307.2.2.2.2.2.1 == t301 && (bt307.2.2.2.2.2.2.1.toList == t302.toList))))) = true then ((impl_PktOk.f t296 t297 t298 t299 t300 t301 t302).bind fun t316=>(some t316)) else (some false)) else (some false))) = some r:=by rw [if_neg (show ¬ (false = true) by decide)] at H;exact H
     clear H
     have H:=H1
     clear H1
     replace H:=Option.bind_eq_some_iff.mp H
     obtain ⟨⟨t307,t308,t309,t310,t311,t312,t313,t314⟩,A200,H⟩:=H
     replace H : (if t314 = true then (if (t307 == t296 && ((t308 == t297 && (t309 == t298)) && ((t310 == t299 && (t311 == t300)) && (t312 == t301 && (t313.toList == t302.toList))))) = true then ((impl_PktOk.f t296 t297 t298 t299 t300 t301 t302).bind fun t316=>(some t316)) else (some false)) else (some false)) = some r:=H
     have A20:=m_ A200
     clear A200
     by_cases c21 : t314 = true
     ·subst c21
      have H1 : (if (t307 == t296 && ((t308 == t297 && (t309 == t298)) && ((t310 == t299 && (t311 == t300)) && (t312 == t301 && (t313.toList == t302.toList))))) = true then ((impl_PktOk.f t296 t297 t298 t299 t300 t301 t302).bind fun t316=>(some t316)) else (some false)) = some r:=by rw [if_pos rfl] at H;exact H
      clear H
      have H:=H1
      clear H1
      by_cases c22 : (t307 == t296 && ((t308 == t297 && (t309 == t298)) && ((t310 == t299 && (t311 == t300)) && (t312 == t301 && (t313.toList == t302.toList))))) = true
      ·rw [if_pos c22] at H
       have c22b0 : (t307 == t296 && ((t308 == t297 && (t309 == t298)) && ((t310 == t299 && (t311 == t300)) && (t312 == t301 && (t313.toList == t302.toList))))) = true:=c22
       (try (have c22b1 : decide (t307 = t296 && ((t308 == t297 && (t309 == t298)) && ((t310 == t299 && (t311 == t300)) && (t312 == t301 && (t313.toList == t302.toList))))) = true:=by simpa using c22))
       (try (have c22b2 : (t307 == t296 && ((t308 == t297 && (t309 == t298)) && ((t310 == t299 && (t311 == t300)) && (t312 == t301 && (t313.toList == t302.toList))))) = true:=by simpa using c22))
       clear c22
       replace H:=Option.bind_eq_some_iff.mp H
       obtain ⟨t316,A230,H⟩:=H
       replace H : (some t316) = some r:=H
       have A23:=m_ A230
       clear A230
       obtain rfl:=Option.some.inj H
       go_wp2_with (first|((with_reducible refine gate_callee (f:=10) rfl ?_);refine goesL_ (some 28) rfl rfl Tryd.func10 (by kernel_rfl) rfl #[.string t304] rfl (by (try simp only [List.map_toArray,List.map_cons,List.map_nil]);first|done|rfl|(simp only [List.length_drop,List.length_take];rfl)) ?_;(with_reducible refine (impl_PktRead.calls kj4 t304 t307 t308 t309 t310 t311 t312 t313 true _ ?side1 A20.out).mono ?_);(case side1=>first|(with_reducible exact HG.out)|exact GV_below HG.out (by repeat (first|(with_reducible first|exact HB.out|apply l1_|apply l2_|apply l3_|refine l4_ ?_ GE303.out)|exact HB.out)));rintro e w24 ⟨rfl,hb⟩;refine ⟨_,rfl,?_⟩;have n0_:=m_ (blk_below (g:=gb303) (o:=.cells #[.int .i64 t296,.int .i64 t297,.int .i64 t298,.int .i64 t299,.int .i64 t300,.int .i64 t301,.string t302] 26 (0,0)) (by (with_reducible repeat first|apply b1_|apply b2_|apply b3_);exact BK303.out) hb);have n1_:=m_ (l5_ (by repeat (first|(with_reducible first|exact HB.out|apply l1_|apply l2_|apply l3_|refine l4_ ?_ GE303.out)|exact HB.out)) hb);clear BK303;clear HB;have BK303:=n0_;have HB:=n1_;clear n0_ n1_;(try clear hb);(try clear hb2);(try clear hk);(try clear hi))|((with_reducible refine gate_dst (N:=5) rfl ?_);refine box_event ?hg (N:=5) ?hd (cs:=#[.int .i64 0,.int .i64 0,.int .i64 0,.int .i64 0,.int .i64 0,.int .i64 0,.string (⟨#[]⟩ : ByteArray)]) (t:=26) ?hr ?_;(case hd=>rfl);(case hg=>rfl);(case hr=>first|(go_simp;done)|(go_simp;rfl));intro gb315 hg w25 hbox hb;have n0_:=m_ (blk_below (g:=gb303) (o:=.cells #[.int .i64 t296,.int .i64 t297,.int .i64 t298,.int .i64 t299,.int .i64 t300,.int .i64 t301,.string t302] 26 (0,0)) (by (with_reducible repeat first|apply b1_|apply b2_|apply b3_);exact BK303.out) hb);have n1_:=m_ (l5_ (by repeat (first|(with_reducible first|exact HB.out|apply l1_|apply l2_|apply l3_|refine l4_ ?_ GE303.out)|exact HB.out)) hb);have n2_:=m_ (hbox);have n3_:=m_ ((by rw [hg];exact (l6_ (by repeat (first|(with_reducible first|exact HB.out|apply l1_|apply l2_|apply l3_|refine l4_ ?_ GE303.out)|exact HB.out))) : w.heap.size ≤ gb315));have n4_:=n3_;have n5_:=m_ ((by rw [hg];exact Nat.ne_of_lt (blk_lt (g:=gb303) (o:=.cells #[.int .i64 t296,.int .i64 t297,.int .i64 t298,.int .i64 t299,.int .i64 t300,.int .i64 t301,.string t302] 26 (0,0)) (by (with_reducible repeat first|apply b1_|apply b2_|apply b3_);exact BK303.out)) : gb303 ≠ gb315));have n6_:=m_ ((by rw [hg];exact Nat.ne_of_gt (blk_lt (g:=gb303) (o:=.cells #[.int .i64 t296,.int .i64 t297,.int .i64 t298,.int .i64 t299,.int .i64 t300,.int .i64 t301,.string t302] 26 (0,0)) (by (with_reducible repeat first|apply b1_|apply b2_|apply b3_);exact BK303.out)) : gb315 ≠ gb303));clear BK303;clear HB;have BK303:=n0_;have HB:=n1_;have BK315:=n2_;have GW315:=n3_;have GE315:=n4_;have NB303_315:=n5_;have NB315_303:=n6_;clear n0_ n1_ n2_ n3_ n4_ n5_ n6_;clear hb hbox hg;have hnb26:=NB315_303.out;have hnc26:=NB303_315.out;have hcz27_0 : w25.cell? ⟨gb315,0,none⟩ = some (.int .i64 0):=(c_ BK315.out 0).trans rfl;have hcz27_1 : w25.cell? ⟨gb315,1,none⟩ = some (.int .i64 0):=(c_ BK315.out 1).trans rfl;have hcz27_2 : w25.cell? ⟨gb315,2,none⟩ = some (.int .i64 0):=(c_ BK315.out 2).trans rfl;have hcz27_3 : w25.cell? ⟨gb315,3,none⟩ = some (.int .i64 0):=(c_ BK315.out 3).trans rfl;have hcz27_4 : w25.cell? ⟨gb315,4,none⟩ = some (.int .i64 0):=(c_ BK315.out 4).trans rfl;have hcz27_5 : w25.cell? ⟨gb315,5,none⟩ = some (.int .i64 0):=(c_ BK315.out 5).trans rfl;have hcz27_6 : w25.cell? ⟨gb315,6,none⟩ = some (.string (⟨#[]⟩ : ByteArray)):=(c_ BK315.out 6).trans rfl;have hfz27_0:=f_ BK315.out 0;have hfz27_1:=f_ BK315.out 1;have hfz27_2:=f_ BK315.out 2;have hfz27_3:=f_ BK315.out 3;have hfz27_4:=f_ BK315.out 4;have hfz27_5:=f_ BK315.out 5;have hfz27_6:=f_ BK315.out 6;have hcz28_0 : w25.cell? ⟨gb303,0,none⟩ = some (.int .i64 t296):=(c_ BK303.out 0).trans rfl;have hcz28_1 : w25.cell? ⟨gb303,1,none⟩ = some (.int .i64 t297):=(c_ BK303.out 1).trans rfl;have hcz28_2 : w25.cell? ⟨gb303,2,none⟩ = some (.int .i64 t298):=(c_ BK303.out 2).trans rfl;have hcz28_3 : w25.cell? ⟨gb303,3,none⟩ = some (.int .i64 t299):=(c_ BK303.out 3).trans rfl;have hcz28_4 : w25.cell? ⟨gb303,4,none⟩ = some (.int .i64 t300):=(c_ BK303.out 4).trans rfl;have hcz28_5 : w25.cell? ⟨gb303,5,none⟩ = some (.int .i64 t301):=(c_ BK303.out 5).trans rfl;have hcz28_6 : w25.cell? ⟨gb303,6,none⟩ = some (.string t302):=(c_ BK303.out 6).trans rfl;have hfz28_0:=f_ BK303.out 0;have hfz28_1:=f_ BK303.out 1;have hfz28_2:=f_ BK303.out 2;have hfz28_3:=f_ BK303.out 3;have hfz28_4:=f_ BK303.out 4;have hfz28_5:=f_ BK303.out 5;have hfz28_6:=f_ BK303.out 6)|(go_at_call 11;(with_reducible refine (impl_PktOk.calls t296 t297 t298 t299 t300 t301 t302 t316 _ A23.out).mono ?_);rintro e w29 ⟨rfl,hb⟩;have n0_:=m_ (blk_below (g:=gb303) (o:=.cells #[.int .i64 t296,.int .i64 t297,.int .i64 t298,.int .i64 t299,.int .i64 t300,.int .i64 t301,.string t302] 26 (0,0)) (by (with_reducible repeat first|apply b1_|apply b2_|apply b3_);refine b4_ ?_ NB303_315.out _;(with_reducible repeat first|apply b1_|apply b2_|apply b3_);refine b4_ ?_ NB303_315.out _;(with_reducible repeat first|apply b1_|apply b2_|apply b3_);refine b4_ ?_ NB303_315.out _;(with_reducible repeat first|apply b1_|apply b2_|apply b3_);refine b4_ ?_ NB303_315.out _;(with_reducible repeat first|apply b1_|apply b2_|apply b3_);refine b4_ ?_ NB303_315.out _;(with_reducible repeat first|apply b1_|apply b2_|apply b3_);refine b4_ ?_ NB303_315.out _;(with_reducible repeat first|apply b1_|apply b2_|apply b3_);refine b4_ ?_ NB303_315.out _;(with_reducible repeat first|apply b1_|apply b2_|apply b3_);exact BK303.out) hb);have n1_:=m_ (blk_below (g:=gb315) (o:=.cells #[.int .i64 t307,.int .i64 t308,.int .i64 t309,.int .i64 t310,.int .i64 t311,.int .i64 t312,.string t313] 26 (0,0)) (by (with_reducible repeat first|apply b1_|apply b2_|apply b3_);refine blk_put (cs:=#[.int .i64 t307,.int .i64 t308,.int .i64 t309,.int .i64 t310,.int .i64 t311,.int .i64 t312,.string (⟨#[]⟩ : ByteArray)]) ?_ 6 _ rfl;(with_reducible repeat first|apply b1_|apply b2_|apply b3_);refine blk_put (cs:=#[.int .i64 t307,.int .i64 t308,.int .i64 t309,.int .i64 t310,.int .i64 t311,.int .i64 0,.string (⟨#[]⟩ : ByteArray)]) ?_ 5 _ rfl;(with_reducible repeat first|apply b1_|apply b2_|apply b3_);refine blk_put (cs:=#[.int .i64 t307,.int .i64 t308,.int .i64 t309,.int .i64 t310,.int .i64 0,.int .i64 0,.string (⟨#[]⟩ : ByteArray)]) ?_ 4 _ rfl;(with_reducible repeat first|apply b1_|apply b2_|apply b3_);refine blk_put (cs:=#[.int .i64 t307,.int .i64 t308,.int .i64 t309,.int .i64 0,.int .i64 0,.int .i64 0,.string (⟨#[]⟩ : ByteArray)]) ?_ 3 _ rfl;(with_reducible repeat first|apply b1_|apply b2_|apply b3_);refine blk_put (cs:=#[.int .i64 t307,.int .i64 t308,.int .i64 0,.int .i64 0,.int .i64 0,.int .i64 0,.string (⟨#[]⟩ : ByteArray)]) ?_ 2 _ rfl;(with_reducible repeat first|apply b1_|apply b2_|apply b3_);refine blk_put (cs:=#[.int .i64 t307,.int .i64 0,.int .i64 0,.int .i64 0,.int .i64 0,.int .i64 0,.string (⟨#[]⟩ : ByteArray)]) ?_ 1 _ rfl;(with_reducible repeat first|apply b1_|apply b2_|apply b3_);refine blk_put (cs:=#[.int .i64 0,.int .i64 0,.int .i64 0,.int .i64 0,.int .i64 0,.int .i64 0,.string (⟨#[]⟩ : ByteArray)]) ?_ 0 _ rfl;(with_reducible repeat first|apply b1_|apply b2_|apply b3_);exact BK315.out) hb);have n2_:=m_ (l5_ (by repeat (first|(with_reducible first|exact HB.out|apply l1_|apply l2_|apply l3_|refine l4_ ?_ GE303.out|refine l4_ ?_ GE315.out)|exact HB.out)) hb);clear BK303;clear BK315;clear HB;have BK303:=n0_;have BK315:=n1_;have HB:=n2_;clear n0_ n1_ n2_;(try clear hb);(try clear hb2);(try clear hk);(try clear hi)))
       go_ret
       exact ⟨by first|rfl|(simp [e1_,e2_] <;> rfl)|(simp [*,e1_,e2_] <;> rfl)|(simp [e1_,e2_,pk_empty1,pk_empty2];done)|(simp [*,e1_,e2_,pk_empty1,pk_empty2];done),by repeat (first|(with_reducible first|exact HB.out|apply l1_|apply l2_|apply l3_|refine l4_ ?_ GE303.out|refine l4_ ?_ GE315.out)|exact HB.out)⟩
      ·rw [if_neg c22] at H
       have c22b0 : (t307 == t296 && ((t308 == t297 && (t309 == t298)) && ((t310 == t299 && (t311 == t300)) && (t312 == t301 && (t313.toList == t302.toList))))) = false:=by simpa using c22
       (try (have c22b1 : decide (t307 = t296 && ((t308 == t297 && (t309 == t298)) && ((t310 == t299 && (t311 == t300)) && (t312 == t301 && (t313.toList == t302.toList))))) = false:=by simpa using c22))
       (try (have c22b2 : (t307 == t296 && ((t308 == t297 && (t309 == t298)) && ((t310 == t299 && (t311 == t300)) && (t312 == t301 && (t313.toList == t302.toList))))) = false:=by simpa using c22))
       (try (have c22b3 : ¬ (t307 = t296 && ((t308 == t297 && (t309 == t298)) && ((t310 == t299 && (t311 == t300)) && (t312 == t301 && (t313.toList == t302.toList))))):=by simpa using c22))
       clear c22
       obtain rfl:=Option.some.inj H
       go_wp2_with (first|((with_reducible refine gate_callee (f:=10) rfl ?_);refine goesL_ (some 28) rfl rfl Tryd.func10 (by kernel_rfl) rfl #[.string t304] rfl (by (try simp only [List.map_toArray,List.map_cons,List.map_nil]);first|done|rfl|(simp only [List.length_drop,List.length_take];rfl)) ?_;(with_reducible refine (impl_PktRead.calls kj4 t304 t307 t308 t309 t310 t311 t312 t313 true _ ?side1 A20.out).mono ?_);(case side1=>first|(with_reducible exact HG.out)|exact GV_below HG.out (by repeat (first|(with_reducible first|exact HB.out|apply l1_|apply l2_|apply l3_|refine l4_ ?_ GE303.out)|exact HB.out)));rintro e w30 ⟨rfl,hb⟩;refine ⟨_,rfl,?_⟩;have n0_:=m_ (blk_below (g:=gb303) (o:=.cells #[.int .i64 t296,.int .i64 t297,.int .i64 t298,.int .i64 t299,.int .i64 t300,.int .i64 t301,.string t302] 26 (0,0)) (by (with_reducible repeat first|apply b1_|apply b2_|apply b3_);exact BK303.out) hb);have n1_:=m_ (l5_ (by repeat (first|(with_reducible first|exact HB.out|apply l1_|apply l2_|apply l3_|refine l4_ ?_ GE303.out)|exact HB.out)) hb);clear BK303;clear HB;have BK303:=n0_;have HB:=n1_;clear n0_ n1_;(try clear hb);(try clear hb2);(try clear hk);(try clear hi))|((with_reducible refine gate_dst (N:=5) rfl ?_);refine box_event ?hg (N:=5) ?hd (cs:=#[.int .i64 0,.int .i64 0,.int .i64 0,.int .i64 0,.int .i64 0,.int .i64 0,.string (⟨#[]⟩ : ByteArray)]) (t:=26) ?hr ?_;(case hd=>rfl);(case hg=>rfl);(case hr=>first|(go_simp;done)|(go_simp;rfl));intro gb315 hg w31 hbox hb;have n0_:=m_ (blk_below (g:=gb303) (o:=.cells #[.int .i64 t296,.int .i64 t297,.int .i64 t298,.int .i64 t299,.int .i64 t300,.int .i64 t301,.string t302] 26 (0,0)) (by (with_reducible repeat first|apply b1_|apply b2_|apply b3_);exact BK303.out) hb);have n1_:=m_ (l5_ (by repeat (first|(with_reducible first|exact HB.out|apply l1_|apply l2_|apply l3_|refine l4_ ?_ GE303.out)|exact HB.out)) hb);have n2_:=m_ (hbox);have n3_:=m_ ((by rw [hg];exact (l6_ (by repeat (first|(with_reducible first|exact HB.out|apply l1_|apply l2_|apply l3_|refine l4_ ?_ GE303.out)|exact HB.out))) : w.heap.size ≤ gb315));have n4_:=n3_;have n5_:=m_ ((by rw [hg];exact Nat.ne_of_lt (blk_lt (g:=gb303) (o:=.cells #[.int .i64 t296,.int .i64 t297,.int .i64 t298,.int .i64 t299,.int .i64 t300,.int .i64 t301,.string t302] 26 (0,0)) (by (with_reducible repeat first|apply b1_|apply b2_|apply b3_);exact BK303.out)) : gb303 ≠ gb315));have n6_:=m_ n5_.out.symm;clear BK303;clear HB;have BK303:=n0_;have HB:=n1_;have BK315:=n2_;have GW315:=n3_;have GE315:=n4_;have NB303_315:=n5_;have NB315_303:=n6_;clear n0_ n1_ n2_ n3_ n4_ n5_ n6_;clear hb hbox hg;have hnb32:=NB315_303.out;have hnc32:=NB303_315.out;have hcz33_0 : w31.cell? ⟨gb315,0,none⟩ = some (.int .i64 0):=(c_ BK315.out 0).trans rfl;have hcz33_1 : w31.cell? ⟨gb315,1,none⟩ = some (.int .i64 0):=(c_ BK315.out 1).trans rfl;have hcz33_2 : w31.cell? ⟨gb315,2,none⟩ = some (.int .i64 0):=(c_ BK315.out 2).trans rfl;have hcz33_3 : w31.cell? ⟨gb315,3,none⟩ = some (.int .i64 0):=(c_ BK315.out 3).trans rfl;have hcz33_4 : w31.cell? ⟨gb315,4,none⟩ = some (.int .i64 0):=(c_ BK315.out 4).trans rfl;have hcz33_5 : w31.cell? ⟨gb315,5,none⟩ = some (.int .i64 0):=(c_ BK315.out 5).trans rfl;have hcz33_6 : w31.cell? ⟨gb315,6,none⟩ = some (.string (⟨#[]⟩ : ByteArray)):=(c_ BK315.out 6).trans rfl;have hfz33_0:=f_ BK315.out 0;have hfz33_1:=f_ BK315.out 1;have hfz33_2:=f_ BK315.out 2;have hfz33_3:=f_ BK315.out 3;have hfz33_4:=f_ BK315.out 4;have hfz33_5:=f_ BK315.out 5;have hfz33_6:=f_ BK315.out 6;have hcz34_0 : w31.cell? ⟨gb303,0,none⟩ = some (.int .i64 t296):=(c_ BK303.out 0).trans rfl;have hcz34_1 : w31.cell? ⟨gb303,1,none⟩ = some (.int .i64 t297):=(c_ BK303.out 1).trans rfl;have hcz34_2 : w31.cell? ⟨gb303,2,none⟩ = some (.int .i64 t298):=(c_ BK303.out 2).trans rfl;have hcz34_3 : w31.cell? ⟨gb303,3,none⟩ = some (.int .i64 t299):=(c_ BK303.out 3).trans rfl;have hcz34_4 : w31.cell? ⟨gb303,4,none⟩ = some (.int .i64 t300):=(c_ BK303.out 4).trans rfl;have hcz34_5 : w31.cell? ⟨gb303,5,none⟩ = some (.int .i64 t301):=(c_ BK303.out 5).trans rfl;have hcz34_6 : w31.cell? ⟨gb303,6,none⟩ = some (.string t302):=(c_ BK303.out 6).trans rfl;have hfz34_0:=f_ BK303.out 0;have hfz34_1:=f_ BK303.out 1;have hfz34_2:=f_ BK303.out 2;have hfz34_3:=f_ BK303.out 3;have hfz34_4:=f_ BK303.out 4;have hfz34_5:=f_ BK303.out 5;have hfz34_6:=f_ BK303.out 6))
       go_ret
       exact ⟨by first|rfl|(simp [e1_,e2_] <;> rfl)|(simp [*,e1_,e2_] <;> rfl)|(simp [e1_,e2_,pk_empty1,pk_empty2];done)|(simp [*,e1_,e2_,pk_empty1,pk_empty2];done),by repeat (first|(with_reducible first|exact HB.out|apply l1_|apply l2_|apply l3_|refine l4_ ?_ GE303.out|refine l4_ ?_ GE315.out)|exact HB.out)⟩
     ·replace c21:=Bool.eq_false_iff.mpr c21
      subst c21
      have H1 : (some false) = some r:=by rw [if_neg (show ¬ (false = true) by decide)] at H;exact H
      clear H
      have H:=H1
      clear H1
      obtain rfl:=Option.some.inj H
      go_wp2_with (first|((with_reducible refine gate_callee (f:=10) rfl ?_);refine goesL_ (some 28) rfl rfl Tryd.func10 (by kernel_rfl) rfl #[.string t304] rfl (by (try simp only [List.map_toArray,List.map_cons,List.map_nil]);first|done|rfl|(simp only [List.length_drop,List.length_take];rfl)) ?_;(with_reducible refine (impl_PktRead.calls kj4 t304 t307 t308 t309 t310 t311 t312 t313 false _ ?side1 A20.out).mono ?_);(case side1=>first|(with_reducible exact HG.out)|exact GV_below HG.out (by repeat (first|(with_reducible first|exact HB.out|apply l1_|apply l2_|apply l3_|refine l4_ ?_ GE303.out)|exact HB.out)));rintro e w35 ⟨rfl,hb⟩;refine ⟨_,rfl,?_⟩;have n0_:=m_ (blk_below (g:=gb303) (o:=.cells #[.int .i64 t296,.int .i64 t297,.int .i64 t298,.int .i64 t299,.int .i64 t300,.int .i64 t301,.string t302] 26 (0,0)) (by (with_reducible repeat first|apply b1_|apply b2_|apply b3_);exact BK303.out) hb);have n1_:=m_ (l5_ (by repeat (first|(with_reducible first|exact HB.out|apply l1_|apply l2_|apply l3_|refine l4_ ?_ GE303.out)|exact HB.out)) hb);clear BK303;clear HB;have BK303:=n0_;have HB:=n1_;clear n0_ n1_;(try clear hb);(try clear hb2);(try clear hk);(try clear hi))|((with_reducible refine gate_dst (N:=5) rfl ?_);refine box_event ?hg (N:=5) ?hd (cs:=#[.int .i64 0,.int .i64 0,.int .i64 0,.int .i64 0,.int .i64 0,.int .i64 0,.string (⟨#[]⟩ : ByteArray)]) (t:=26) ?hr ?_;(case hd=>rfl);(case hg=>rfl);(case hr=>first|(go_simp;done)|(go_simp;rfl));intro gb315 hg w36 hbox hb;have n0_:=m_ (blk_below (g:=gb303) (o:=.cells #[.int .i64 t296,.int .i64 t297,.int .i64 t298,.int .i64 t299,.int .i64 t300,.int .i64 t301,.string t302] 26 (0,0)) (by (with_reducible repeat first|apply b1_|apply b2_|apply b3_);exact BK303.out) hb);have n1_:=m_ (l5_ (by repeat (first|(with_reducible first|exact HB.out|apply l1_|apply l2_|apply l3_|refine l4_ ?_ GE303.out)|exact HB.out)) hb);have n2_:=m_ (hbox);have n3_:=m_ ((by rw [hg];exact (l6_ (by repeat (first|(with_reducible first|exact HB.out|apply l1_|apply l2_|apply l3_|refine l4_ ?_ GE303.out)|exact HB.out))) : w.heap.size ≤ gb315));have n4_:=n3_;have n5_:=m_ ((by rw [hg];exact Nat.ne_of_lt (blk_lt (g:=gb303) (o:=.cells #[.int .i64 t296,.int .i64 t297,.int .i64 t298,.int .i64 t299,.int .i64 t300,.int .i64 t301,.string t302] 26 (0,0)) (by (with_reducible repeat first|apply b1_|apply b2_|apply b3_);exact BK303.out)) : gb303 ≠ gb315));have n6_:=m_ n5_.out.symm;clear BK303;clear HB;have BK303:=n0_;have HB:=n1_;have BK315:=n2_;have GW315:=n3_;have GE315:=n4_;have NB303_315:=n5_;have NB315_303:=n6_;clear n0_ n1_ n2_ n3_ n4_ n5_ n6_;clear hb hbox hg;have hnb37:=NB315_303.out;have hnc37:=NB303_315.out;have hcz38_0 : w36.cell? ⟨gb315,0,none⟩ = some (.int .i64 0):=(c_ BK315.out 0).trans rfl;have hcz38_1 : w36.cell? ⟨gb315,1,none⟩ = some (.int .i64 0):=(c_ BK315.out 1).trans rfl;have hcz38_2 : w36.cell? ⟨gb315,2,none⟩ = some (.int .i64 0):=(c_ BK315.out 2).trans rfl;have hcz38_3 : w36.cell? ⟨gb315,3,none⟩ = some (.int .i64 0):=(c_ BK315.out 3).trans rfl;have hcz38_4 : w36.cell? ⟨gb315,4,none⟩ = some (.int .i64 0):=(c_ BK315.out 4).trans rfl;have hcz38_5 : w36.cell? ⟨gb315,5,none⟩ = some (.int .i64 0):=(c_ BK315.out 5).trans rfl;have hcz38_6 : w36.cell? ⟨gb315,6,none⟩ = some (.string (⟨#[]⟩ : ByteArray)):=(c_ BK315.out 6).trans rfl;have hfz38_0:=f_ BK315.out 0;have hfz38_1:=f_ BK315.out 1;have hfz38_2:=f_ BK315.out 2;have hfz38_3:=f_ BK315.out 3;have hfz38_4:=f_ BK315.out 4;have hfz38_5:=f_ BK315.out 5;have hfz38_6:=f_ BK315.out 6))
      go_ret
      exact ⟨by first|rfl|(simp [e1_,e2_] <;> rfl)|(simp [*,e1_,e2_] <;> rfl)|(simp [e1_,e2_,pk_empty1,pk_empty2];done)|(simp [*,e1_,e2_,pk_empty1,pk_empty2];done),by repeat (first|(with_reducible first|exact HB.out|apply l1_|apply l2_|apply l3_|refine l4_ ?_ GE303.out|refine l4_ ?_ GE315.out)|exact HB.out)⟩

/-- THE ONE PURE STATEMENT of laws_FnPktBack: yours. -/
def laws_FnPktBack.Pure : Prop := ∀ (l0 : List Int), l0.length ≤ maxLen → l0.length * 1 ≤ 140737488351232 → (∀ x ∈ l0, (Lit.int .u8 x).wf = true) → ∃ k, laws_FnPktBack.f k l0 = some true
theorem laws_FnPktBack.walk (P : laws_FnPktBack.Pure) (a0 : Option Addr) (len0 cap0 : Nat) (z0 : List Int) (w : World) (hG : GV w) (w0 : (a0 = none ∧ len0 = 0 ∧ cap0 = 0 ∧ z0 = []) ∨ ∃ x, a0 = some x ∧ len0 ≤ cap0 ∧ cap0 ≤ maxLen ∧ z0.length = cap0 ∧ (∀ i, i < z0.length → w.cell? (x.add i) = some (.int .u8 (z0.getD i 0))) ∧ ∀ n ∈ z0, (Lit.int .u8 n).wf = true) (y0 : len0 * 1 ≤ 140737488351232) :
  Calls Tryd.prog 3 #[.slice a0 len0 cap0] w fun e w'=>e = .returned (.bool true) ∧ Below w.heap.size w w':=by
 obtain ⟨l0,rfl,hr0,hm0,hw0,hc0⟩:=ReadsInt.ofRowC w0
 obtain ⟨k,h⟩:=P l0 hm0 y0 hw0
 refine (laws_FnPktBack.calls k _ _ l0 true w (Kd.C_of_reads (d:=(0 : Int)) (h1:=fun _=>rfl) hr0) hc0 hG h).mono ?_
 rintro e w' ⟨rfl,hd⟩
 exact ⟨rfl,hd⟩

end Go.Proofs.YtejpgpjjocbbjaaDoor.A
