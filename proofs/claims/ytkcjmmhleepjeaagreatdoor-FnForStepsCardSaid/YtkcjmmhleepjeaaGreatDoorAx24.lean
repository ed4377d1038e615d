-- Printed by myprint.py (wip/tools) out of the translation. Not trusted: Lean checks it.
import Derived.Test.YtkcjmmhleepjeaaGreatDoorAx0
import Derived.Test.YtkcjmmhleepjeaaGreatDoorAx16
import Derived.Test.YtkcjmmhleepjeaaGreatDoorAx18
import Derived.Test.YtkcjmmhleepjeaaGreatDoorAx19
import Derived.Test.YtkcjmmhleepjeaaGreatDoorAx20
namespace Go.Proofs.YtkcjmmhleepjeaaGreatDoor.A
open Go.RowKit Go.Proofs.YtkcjmmhleepjeaaGreatDoorW.PrintWords Go.Proofs.YtkcjmmhleepjeaaGreatDoorW.PrintLast Go.Proofs.YtkcjmmhleepjeaaGreatDoorW.PrintMore
attribute [local go_sem] max2_int min2_int max_two min_two max_three min_three max_four min_four
set_option linter.unusedVariables false
set_option linter.unusedSimpArgs false

/-! ### laws_FnForSteps: function 3 -/
mutual
def laws_FnForSteps.j0 : Nat → List Int → List Int → Bool → Option (Bool)
 | 0, _, _, _ => none
 | k + 1, x0, x1, x19 => if x19 = true then (some true) else ((spec_DrawStreamFor.f k x0).bind fun bt487 => ((impl_StreamFor.f k bt487.1 bt487.2.1 bt487.2.2).bind fun t493 => ((spec_StreamFor.f k bt487.1 bt487.2.1 bt487.2.2).bind fun t494 => (if t493 = t494 then ((spec_StreamOk.f k bt487.1 bt487.2.1).bind fun t495 => (laws_FnForSteps.j1 k x1 bt487.2.2 t493 (!t495) bt487.1 bt487.2.1)) else (laws_FnForSteps.j1 k x1 bt487.2.2 t493 true bt487.1 bt487.2.1)))))
def laws_FnForSteps.j1 : Nat → List Int → Int → Int → Bool → ByteArray → List (S31) → Option (Bool)
 | 0, _, _, _, _, _, _ => none
 | k + 1, x1, x6, x7, x37, x493000, x493001 => if x37 = true then ((spec_StreamFor.f k x493000 x493001 x6).bind fun t496 => (some (x7 == t496))) else (if (wrap64 ((x493001.length : Int) + 1)) = 0 then (none) else (laws_FnForSteps.l0 k ((x1.length : Int) % (wrap64 ((x493001.length : Int) + 1))) 0 0 0 x493000 x493001))
def laws_FnForSteps.l0 : Nat → Int → Int → Int → Int → ByteArray → List (S31) → Option (Bool)
 | 0, _, _, _, _, _, _ => none
 | k + 1, x8, x9, x10, x11, x493000, x493001 => if x11 < x8 then (if 0 ≤ x11 then (if x11 < (x493001.length : Int) then (laws_FnForSteps.l0 k x8 (wrap64 (x9 + ((rd_T31 x493001 x11).f0))) (wrap64 (x10 + (((rd_T31 x493001 x11).f1).size : Int))) (wrap64 (x11 + 1)) x493000 x493001) else (none)) else (none)) else ((impl_StreamFor.f k x493000 x493001 x9).bind fun t499 => (if t499 = x10 then ((impl_StreamBack.f k x493000 x493001 x10).bind fun t500 => (some (t500 == x9))) else (some false)))
end
def laws_FnForSteps.f (k : Nat) (l0 : List Int) (l1 : List Int) : Option (Bool) := if (l0.length : Int) > 1048576 then (laws_FnForSteps.j0 k l0 l1 true) else (laws_FnForSteps.j0 k l0 l1 (decide ((l1.length : Int) > 1048576)))
theorem laws_FnForSteps.mono_l : ∀ k, (∀ y0 y1 y2, LeO (laws_FnForSteps.j0 k y0 y1 y2) (laws_FnForSteps.j0 (k + 1) y0 y1 y2)) ∧ (∀ y0 y1 y2 y3 y4 y5, LeO (laws_FnForSteps.j1 k y0 y1 y2 y3 y4 y5) (laws_FnForSteps.j1 (k + 1) y0 y1 y2 y3 y4 y5)) ∧ (∀ y0 y1 y2 y3 y4 y5, LeO (laws_FnForSteps.l0 k y0 y1 y2 y3 y4 y5) (laws_FnForSteps.l0 (k + 1) y0 y1 y2 y3 y4 y5))
 | 0 => ⟨fun _ _ _ r h => by simp [laws_FnForSteps.j0] at h, fun _ _ _ _ _ _ r h => by simp [laws_FnForSteps.j1] at h, fun _ _ _ _ _ _ r h => by simp [laws_FnForSteps.l0] at h⟩
 | k + 1 => by
  obtain ⟨ih0,ih1,ih2⟩:=laws_FnForSteps.mono_l k
  refine ⟨?_,?_,?_⟩
  ·intro y0 y1 y2
   unfold laws_FnForSteps.j0
   exact leo8 ih0 ih1 ih2 impl_StreamBack.mono impl_StreamFor.mono spec_DrawStreamFor.mono spec_StreamFor.mono spec_StreamOk.mono
  ·intro y0 y1 y2 y3 y4 y5
   unfold laws_FnForSteps.j1
   exact leo8 ih0 ih1 ih2 impl_StreamBack.mono impl_StreamFor.mono spec_DrawStreamFor.mono spec_StreamFor.mono spec_StreamOk.mono
  ·intro y0 y1 y2 y3 y4 y5
   unfold laws_FnForSteps.l0
   exact leo8 ih0 ih1 ih2 impl_StreamBack.mono impl_StreamFor.mono spec_DrawStreamFor.mono spec_StreamFor.mono spec_StreamOk.mono
theorem laws_FnForSteps.mono : ∀ a0 a1 k, LeO (laws_FnForSteps.f k a0 a1) (laws_FnForSteps.f (k + 1) a0 a1) := by
 intro a0 a1 k
 obtain ⟨ih0,ih1,ih2⟩:=laws_FnForSteps.mono_l k
 unfold laws_FnForSteps.f
 exact leo8 ih0 ih1 ih2 impl_StreamBack.mono impl_StreamFor.mono spec_DrawStreamFor.mono spec_StreamFor.mono spec_StreamOk.mono
set_option maxHeartbeats 8000000 in
set_option maxRecDepth 100000 in
theorem laws_FnForSteps.calls (k : Nat) (A0 : Option Addr) (c0 : Nat) (l0 : List Int) (A1 : Option Addr) (c1 : Nat) (l1 : List Int) (r : Bool) (w : World) (hr0 : Kd.C (Kd.int .u8) w A0 l0.length l0) (hc0 : l0.length ≤ c0) (hr1 : Kd.C (Kd.int .u8) w A1 l1.length l1) (hc1 : l1.length ≤ c1) (hG : GV w) (h : laws_FnForSteps.f k l0 l1 = some r) :
  Calls Tryz.prog 3 #[.slice A0 l0.length c0,.slice A1 l1.length c1] w fun e w'=>e = .returned (.bool r) ∧ Below w.heap.size w w':=by
 have hu25:=Tryz.underlying25
 have HG:=m_ hG
 clear hG
 have HR0:=m_ hr0
 have HC0:=m_ hc0
 clear hr0 hc0
 have HR1:=m_ hr1
 have HC1:=m_ hc1
 clear hr1 hc1
 have HB:=m_ (Below.refl w.heap.size w)
 have H : (if (l0.length : Int) > 1048576 then (laws_FnForSteps.j0 k l0 l1 true) else (laws_FnForSteps.j0 k l0 l1 (decide ((l1.length : Int) > 1048576)))) = some r:=h
 clear h
 have HC3:=m_ H
 clear H
 go_enter Tryz.func3,Tryz.ntmps3
 go_upto_region 1 with (fail)
 go_cut [19] (fun v19 wc=>∃ (kq : Nat) (x19_2 : Bool),v19 = .bool x19_2 ∧ Aside0 (laws_FnForSteps.j0 kq l0 l1 x19_2 = some r) ∧ Aside0 (kq ≤ k) ∧ Aside0 (Below w.heap.size w wc))
 case first =>
  have H:=HC3.out
  clear HC3
  by_cases c4 : (l0.length : Int) > 1048576
  ·rw [if_pos c4] at H
   have c4b0 : decide (1048576 < (l0.length : Int)) = true:=decide_eq_true c4
   have c4b1 : decide (1048576 < l0.length) = true:=decide_eq_true (by omega)
   clear c4
   (first|rw [c4b0]|(simp only [i64_w,i32_w];rw [c4b0])|skip)
   have H':=m_ H
   clear H
   go_wp2
   go_meet
   case rel=>exact ⟨_,(true),(by first|rfl|(simp;done)|(simp [*];done)),H',⟨by first|omega|exact Nat.le_refl _⟩,⟨puL HB.out⟩⟩
  ·rw [if_neg c4] at H
   have c4b0 : decide (1048576 < (l0.length : Int)) = false:=decide_eq_false c4
   have c4b1 : decide (1048576 < l0.length) = false:=decide_eq_false (by omega)
   clear c4
   (first|rw [c4b0]|(simp only [i64_w,i32_w];rw [c4b0])|skip)
   have H':=m_ H
   clear H
   go_wp2
   go_meet
   case rel=>exact ⟨_,(decide ((l1.length : Int) > 1048576)),(by first|rfl|(simp;done)|(simp [*];done)),H',⟨by first|omega|exact Nat.le_refl _⟩,⟨puL HB.out⟩⟩
 case rest =>
  clear HC3
  try clear c1
  try clear p2
  try clear c3
  try clear c4
  try clear c4b0
  try clear c4b1
  obtain ⟨kq,x19_2,rfl,HA,HJ2,HB⟩:=hcut
  cases kq with
  | zero => exact absurd HA.out (by simp [laws_FnForSteps.j0])
  | succ kj2 =>
   have H:=HA.out
   clear HA
   simp only [laws_FnForSteps.j0] at H
   by_cases c5 : x19_2 = true
   ·subst c5
    replace H:=ifp H rfl
    obtain rfl:=Option.some.inj H
    go_wp2
    go_ret
    exact ⟨eqs,puL HB.out⟩
   ·replace c5:=Bool.eq_false_iff.mpr c5
    subst c5
    replace H:=ifn H
    replace H:=Option.bind_eq_some_iff.mp H
    obtain ⟨⟨t487,t488,t491⟩,A60,H⟩:=H
    replace H : ((impl_StreamFor.f kj2 t487 t488 t491).bind fun t493=>((spec_StreamFor.f kj2 t487 t488 t491).bind fun t494=>(if t493 = t494 then ((spec_StreamOk.f kj2 t487 t488).bind fun t495=>(laws_FnForSteps.j1 kj2 l1 t491 t493 (!t495) t487 t488)) else (laws_FnForSteps.j1 kj2 l1 t491 t493 true t487 t488)))) = some r:=H
    have A6:=m_ A60
    clear A60
    replace H:=Option.bind_eq_some_iff.mp H
    obtain ⟨t493,A70,H⟩:=H
    have A7:=m_ A70
    clear A70
    have HC8:=m_ H
    clear H
    go_upto_region 5 with (first|((with_reducible refine gate_callee (f:=8) rfl ?_);refine goesL_ (some 22) rfl rfl Tryz.func8 (by kernel_rfl) rfl #[.slice A0 l0.length c0] rfl lens ?_;(with_reducible refine (spec_DrawStreamFor.calls kj2 _ _ l0 t487 t488 t491 _ ?side1 ?side2 A6.out).mono ?_);(case side1=>exact puC (Kd.C_below HR0.out HB.out));(case side2=>exact HC0.out);rintro e w9 ⟨v489,rfl,ho0,hb⟩;refine ⟨_,rfl,?_⟩;have n0_:=m_ (Kd.R_lower ho0 (l6_ (puL HB.out)));have n1_:=m_ (l5_ (puL HB.out) hb);revert n0_ n1_;clear HB;intro HO490 HB;(try clear hb);(try clear hb2);(try clear hk);(try clear hi);(try clear ho0))|((with_reducible refine gate_dst (N:=5) rfl ?_);(try (refine gate_guard (by rfl) ?_;dsimp only));refine box_event ?hg (N:=5) ?hd (cs:=#[.string (⟨#[]⟩ : ByteArray),.slice none 0 0]) (t:=25) ?hr ?_;(case hd=>rfl);(case hg=>rfl);(case hr=>first|(go_simp;done)|(go_simp;rfl));intro gb492 hg w10 hbox hb;have n0_:=m_ (Kd.R_below (puR HO490.out) hb);have n1_:=m_ (l5_ (puL HB.out) hb);have n2_:=m_ (hbox);have n3_:=m_ ((by rw [hg];exact (l6_ (puL HB.out)) : w.heap.size ≤ gb492));have n4_:=m_ ((by rw [hg];exact (l6_ (puL HB.out)) : w.heap.size ≤ gb492));revert n0_ n1_ n2_ n3_ n4_;clear HO490 HB;intro HO490 HB BK492 GW492 GE492;clear hb hbox hg;have hcz11_0 : w10.cell? ⟨gb492,0,none⟩ = some (.string (⟨#[]⟩ : ByteArray)):=(c_ BK492.out 0).trans rfl;have hcz11_1 : w10.cell? ⟨gb492,1,none⟩ = some (.slice none 0 0):=(c_ BK492.out 1).trans rfl;have hfz11_0:=f_ BK492.out 0;have hfz11_1:=f_ BK492.out 1;obtain ⟨Ao12,co12,eo12⟩:=Kd.R_slice HO490.out;subst eo12)|((with_reducible refine gate_callee (f:=9) rfl ?_);refine goesL_ (some 27) rfl rfl Tryz.func9 (by kernel_rfl) rfl #[.agg #[.string t487,.slice Ao12 t488.length co12],.int .i64 t491] rfl lens ?_;(with_reducible refine (impl_StreamFor.calls kj2 t487 _ _ t488 t491 t493 _ ?side1 ?side2 ?side3 A7.out).mono ?_);(case side1=>refine (Kd.R_reads' (e:=31) (base:=w.heap.size) (ok:=fun k_=>True) (n:=t488.length) (c:=co12) ?_).2.2;exact (by (with_reducible repeat (first|apply Kd.R_alloc|apply Kd.R_drewN|apply Kd.R_drew));exact (Kd.R_mono (Kd.R_far (p:=⟨gb492,1,none⟩) (Kd.R_far (p:=⟨gb492,0,none⟩) (Kd.R_types HO490.out BK492.out (by decide)) (fun _ hk=>hk.2) (.string t487)) (fun _ hk=>hk.2) (.slice Ao12 t488.length co12)) (fun _ h_=>h_.1))));(case side2=>exact (Kd.R_reads' HO490.out).2.1);(case side3=>first|(with_reducible exact HG.out)|exact GV_below HG.out (puM HB.out GE492.out));rintro e w13 ⟨rfl,hb⟩;refine ⟨_,rfl,?_⟩;have n0_:=m_ (Kd.R_below (by (with_reducible repeat (first|apply Kd.R_alloc|apply Kd.R_drewN|apply Kd.R_drew));exact (Kd.R_mono (Kd.R_far (p:=⟨gb492,1,none⟩) (Kd.R_far (p:=⟨gb492,0,none⟩) (Kd.R_types HO490.out BK492.out (by decide)) (fun _ hk=>hk.2) (.string t487)) (fun _ hk=>hk.2) (.slice Ao12 t488.length co12)) (fun _ h_=>h_.1))) hb);have n1_:=m_ (blk_below (g:=gb492) (o:=.cells #[.string t487,.slice Ao12 t488.length co12] 25 (0,0)) (by (with_reducible repeat first|apply b1_|apply b2_|apply b3_);refine blk_put (cs:=#[.string t487,.slice none 0 0]) ?_ 1 _ rfl;(with_reducible repeat first|apply b1_|apply b2_|apply b3_);refine blk_put (cs:=#[.string (⟨#[]⟩ : ByteArray),.slice none 0 0]) ?_ 0 _ rfl;(with_reducible repeat first|apply b1_|apply b2_|apply b3_);exact BK492.out) hb);have n2_:=m_ (l5_ (puM HB.out GE492.out) hb);revert n0_ n1_ n2_;clear HO490 BK492 HB;intro HO490 BK492 HB;(try clear hb);(try clear hb2);(try clear hk);(try clear hi)))
    (try simp only [Act.put,s1_,s2_,s3_])
    go_cut [37] (fun v37 wc=>∃ (kq : Nat) (x37_7 : Bool),v37 = .bool x37_7 ∧ Aside0 (laws_FnForSteps.j1 kq l1 t491 t493 x37_7 t487 t488 = some r) ∧ Aside0 (kq ≤ kj2) ∧ Aside0 (Kd.R k31 31 wc w.heap.size (fun _=>True) (.slice Ao12 t488.length co12) t488) ∧ Aside0 (wc.heap[gb492]? = some (.cells #[.string t487,(.slice Ao12 t488.length co12)] 25 (0,0))) ∧ Aside0 (Below w.heap.size w wc))
    case first =>
     have H:=HC8.out
     clear HC8
     replace H:=Option.bind_eq_some_iff.mp H
     obtain ⟨t494,A140,H⟩:=H
     have A14:=m_ A140
     clear A140
     by_cases c15 : t493 = t494
     ·rw [if_pos c15] at H
      have c15b0 : (t493 == t494) = true:=beq_iff_eq.mpr c15
      have c15b1 : (t493 != t494) = false:=bne_eq_false_iff_eq.mpr c15
      clear c15
      (first|rw [c15b0]|(simp only [i64_w,i32_w];rw [c15b0])|skip)
      replace H:=Option.bind_eq_some_iff.mp H
      obtain ⟨t495,A160,H⟩:=H
      have A16:=m_ A160
      clear A160
      have H':=m_ H
      clear H
      have hcz17_0 : w13.cell? ⟨gb492,0,none⟩ = some (.string t487):=(c_ BK492.out 0).trans rfl
      have hcz17_1 : w13.cell? ⟨gb492,1,none⟩ = some (.slice Ao12 t488.length co12):=(c_ BK492.out 1).trans rfl
      have hfz17_0:=f_ BK492.out 0
      have hfz17_1:=f_ BK492.out 1
      go_wp2_with (first|((with_reducible refine gate_callee (f:=10) rfl ?_);refine goesL_ (some 31) rfl rfl Tryz.func10 (by kernel_rfl) rfl #[.agg #[.string t487,.slice Ao12 t488.length co12],.int .i64 t491] rfl lens ?_;(with_reducible refine (spec_StreamFor.calls kj2 t487 _ _ t488 t491 t494 _ ?side1 ?side2 A14.out).mono ?_);(case side1=>exact puC (Kd.R_reads' HO490.out).2.2);(case side2=>exact (Kd.R_reads' HO490.out).2.1);rintro e w18 ⟨rfl,hb⟩;refine ⟨_,rfl,?_⟩;have n0_:=m_ (Kd.R_below (puR HO490.out) hb);have n1_:=m_ (blk_below (g:=gb492) (o:=.cells #[.string t487,.slice Ao12 t488.length co12] 25 (0,0)) (puB BK492.out) hb);have n2_:=m_ (l5_ (puM HB.out GE492.out) hb);revert n0_ n1_ n2_;clear HO490 BK492 HB;intro HO490 BK492 HB;(try clear hb);(try clear hb2);(try clear hk);(try clear hi);have hcz19_0 : w18.cell? ⟨gb492,0,none⟩ = some (.string t487):=(c_ BK492.out 0).trans rfl;have hcz19_1 : w18.cell? ⟨gb492,1,none⟩ = some (.slice Ao12 t488.length co12):=(c_ BK492.out 1).trans rfl;have hfz19_0:=f_ BK492.out 0;have hfz19_1:=f_ BK492.out 1)|(go_at_call 11;(with_reducible refine (spec_StreamOk.calls kj2 t487 _ _ t488 t495 _ ?side1 ?side2 A16.out).mono ?_);(case side1=>exact puC (Kd.R_reads' HO490.out).2.2);(case side2=>exact (Kd.R_reads' HO490.out).2.1);rintro e w20 ⟨rfl,hb⟩;have n0_:=m_ (Kd.R_below (puR HO490.out) hb);have n1_:=m_ (blk_below (g:=gb492) (o:=.cells #[.string t487,.slice Ao12 t488.length co12] 25 (0,0)) (puB BK492.out) hb);have n2_:=m_ (l5_ (puM HB.out GE492.out) hb);revert n0_ n1_ n2_;clear HO490 BK492 HB;intro HO490 BK492 HB;(try clear hb);(try clear hb2);(try clear hk);(try clear hi)))
      go_meet
      case rel=>exact ⟨_,(!t495),(by first|rfl|(simp;done)|(simp [*];done)),H',⟨by have:=HJ2.out;first|omega|exact Nat.le_refl _⟩,⟨by (with_reducible repeat (first|apply Kd.R_alloc|apply Kd.R_drewN|apply Kd.R_drew));exact HO490.out⟩,⟨by (with_reducible repeat first|apply b1_|apply b2_|apply b3_);exact BK492.out⟩,⟨puM HB.out GE492.out⟩⟩
     ·rw [if_neg c15] at H
      have c15b0 : (t493 == t494) = false:=beq_eq_false_iff_ne.mpr c15
      have c15b1 : (t493 != t494) = true:=bne_iff_ne.mpr c15
      (first|rw [c15b0]|(simp only [i64_w,i32_w];rw [c15b0])|skip)
      have H':=m_ H
      clear H
      have hcz21_0 : w13.cell? ⟨gb492,0,none⟩ = some (.string t487):=(c_ BK492.out 0).trans rfl
      have hcz21_1 : w13.cell? ⟨gb492,1,none⟩ = some (.slice Ao12 t488.length co12):=(c_ BK492.out 1).trans rfl
      have hfz21_0:=f_ BK492.out 0
      have hfz21_1:=f_ BK492.out 1
      go_wp2_with (first|((with_reducible refine gate_callee (f:=10) rfl ?_);refine goesL_ (some 31) rfl rfl Tryz.func10 (by kernel_rfl) rfl #[.agg #[.string t487,.slice Ao12 t488.length co12],.int .i64 t491] rfl lens ?_;(with_reducible refine (spec_StreamFor.calls kj2 t487 _ _ t488 t491 t494 _ ?side1 ?side2 A14.out).mono ?_);(case side1=>exact puC (Kd.R_reads' HO490.out).2.2);(case side2=>exact (Kd.R_reads' HO490.out).2.1);rintro e w22 ⟨rfl,hb⟩;refine ⟨_,rfl,?_⟩;have n0_:=m_ (Kd.R_below (puR HO490.out) hb);have n1_:=m_ (blk_below (g:=gb492) (o:=.cells #[.string t487,.slice Ao12 t488.length co12] 25 (0,0)) (puB BK492.out) hb);have n2_:=m_ (l5_ (puM HB.out GE492.out) hb);revert n0_ n1_ n2_;clear HO490 BK492 HB;intro HO490 BK492 HB;(try clear hb);(try clear hb2);(try clear hk);(try clear hi)))
      go_meet
      case rel=>exact ⟨_,(true),(by first|rfl|(simp;done)|(simp [*];done)),H',⟨by have:=HJ2.out;first|omega|exact Nat.le_refl _⟩,⟨by (with_reducible repeat (first|apply Kd.R_alloc|apply Kd.R_drewN|apply Kd.R_drew));exact HO490.out⟩,⟨by (with_reducible repeat first|apply b1_|apply b2_|apply b3_);exact BK492.out⟩,⟨puM HB.out GE492.out⟩⟩
    case rest =>
     clear HC8
     try clear c1
     try clear p2
     try clear c3
     try clear c4
     try clear c4b0
     try clear c4b1
     try clear c5
     try clear c8
     try clear c9
     try clear c10
     try clear c15
     try clear c15b0
     try clear c15b1
     try clear hcz11_0
     try clear hcz11_1
     try clear hcz17_0
     try clear hcz17_1
     try clear hcz19_0
     try clear hcz19_1
     try clear hcz21_0
     try clear hcz21_1
     try clear hfz11_0
     try clear hfz11_1
     try clear hfz17_0
     try clear hfz17_1
     try clear hfz19_0
     try clear hfz19_1
     try clear hfz21_0
     try clear hfz21_1
     try clear p2
     obtain ⟨kq,x37_7,rfl,HA,HJ7,HO_493001,BK492,HB⟩:=hcut
     cases kq with
     | zero => exact absurd HA.out (by simp [laws_FnForSteps.j1])
     | succ kj7 =>
      have H:=HA.out
      clear HA
      simp only [laws_FnForSteps.j1] at H
      by_cases c23 : x37_7 = true
      ·subst c23
       replace H:=ifp H rfl
       replace H:=Option.bind_eq_some_iff.mp H
       obtain ⟨t496,A240,H⟩:=H
       have A24:=m_ A240
       clear A240
       obtain rfl:=Option.some.inj H
       have hcz25_0 : wc.cell? ⟨gb492,0,none⟩ = some (.string t487):=(c_ BK492.out 0).trans rfl
       have hcz25_1 : wc.cell? ⟨gb492,1,none⟩ = some (.slice Ao12 t488.length co12):=(c_ BK492.out 1).trans rfl
       have hfz25_0:=f_ BK492.out 0
       have hfz25_1:=f_ BK492.out 1
       go_wp2_with (first|((with_reducible refine gate_callee (f:=10) rfl ?_);refine goesL_ (some 41) rfl rfl Tryz.func10 (by kernel_rfl) rfl #[.agg #[.string t487,.slice Ao12 t488.length co12],.int .i64 t491] rfl lens ?_;(with_reducible refine (spec_StreamFor.calls kj7 t487 _ _ t488 t491 t496 _ ?side1 ?side2 A24.out).mono ?_);(case side1=>exact puC (Kd.R_reads' HO_493001.out).2.2);(case side2=>exact (Kd.R_reads' HO_493001.out).2.1);rintro e w26 ⟨rfl,hb⟩;refine ⟨_,rfl,?_⟩;have n0_:=m_ (Kd.R_below (puR HO_493001.out) hb);have n1_:=m_ (blk_below (g:=gb492) (o:=.cells #[.string t487,.slice Ao12 t488.length co12] 25 (0,0)) (puB BK492.out) hb);have n2_:=m_ (l5_ (puM HB.out GE492.out) hb);revert n0_ n1_ n2_;clear HO_493001 BK492 HB;intro HO_493001 BK492 HB;(try clear hb);(try clear hb2);(try clear hk);(try clear hi)))
       go_ret
       exact ⟨eqs,puM HB.out GE492.out⟩
      ·replace c23:=Bool.eq_false_iff.mpr c23
       subst c23
       replace H:=ifn H
       by_cases c27 : (wrap64 ((t488.length : Int) + 1)) = 0
       ·rw [if_pos c27] at H
        exact absurd H (by simp)
       ·rw [if_neg c27] at H
        have c27b0 : ((wrap64 ((t488.length : Int) + 1)) == 0) = false:=beq_eq_false_iff_ne.mpr c27
        have c27b1 : ((wrap64 ((t488.length : Int) + 1)) != 0) = true:=bne_iff_ne.mpr c27
        have H':=m_ H
        clear H
        have hcz28_0 : wc.cell? ⟨gb492,0,none⟩ = some (.string t487):=(c_ BK492.out 0).trans rfl
        have hcz28_1 : wc.cell? ⟨gb492,1,none⟩ = some (.slice Ao12 t488.length co12):=(c_ BK492.out 1).trans rfl
        have hfz28_0:=f_ BK492.out 0
        have hfz28_1:=f_ BK492.out 1
        go_wp2
        go_loopg [9,10,11] kj7 (fun kq v9 v10 v11 w'=>∃ (x9_3 : Int) (x10_3 : Int) (x11_3 : Int),v9 = .int .i64 x9_3 ∧ v10 = .int .i64 x10_3 ∧ v11 = .int .i64 x11_3 ∧ Aside0 (laws_FnForSteps.l0 kq ((l1.length : Int) % (wrap64 ((t488.length : Int) + 1))) x9_3 x10_3 x11_3 t487 t488 = some r) ∧ Aside0 (kq ≤ kj7) ∧ Aside0 (Kd.R k31 31 w' w.heap.size (fun _=>True) (.slice Ao12 t488.length co12) t488) ∧ Aside0 (w'.heap[gb492]? = some (.cells #[.string t487,(.slice Ao12 t488.length co12)] 25 (0,0))) ∧ Aside0 (Below w.heap.size w w'))
        case atStart=>exact ⟨(0),(0),(0),(by first|rfl|(simp;done)|(simp [*];done)),(by first|rfl|(simp;done)|(simp [*];done)),(by first|rfl|(simp;done)|(simp [*];done)),H',⟨Nat.le_refl _⟩,⟨by (with_reducible repeat (first|apply Kd.R_alloc|apply Kd.R_drewN|apply Kd.R_drew));exact HO_493001.out⟩,⟨by (with_reducible repeat first|apply b1_|apply b2_|apply b3_);exact BK492.out⟩,⟨puM HB.out GE492.out⟩⟩
        case round =>
         clear H'
         try clear c1
         try clear c2
         try clear p2
         try clear c3
         try clear c4
         try clear c4b0
         try clear c4b1
         try clear c5
         try clear p6
         try clear c8
         try clear c9
         try clear c10
         try clear c15
         try clear c15b0
         try clear c15b1
         try clear c23
         try clear c27
         try clear c27b0
         try clear c27b1
         try clear hcz11_0
         try clear hcz11_1
         try clear hcz17_0
         try clear hcz17_1
         try clear hcz19_0
         try clear hcz19_1
         try clear hcz21_0
         try clear hcz21_1
         try clear hcz25_0
         try clear hcz25_1
         try clear hcz28_0
         try clear hcz28_1
         try clear hfz11_0
         try clear hfz11_1
         try clear hfz17_0
         try clear hfz17_1
         try clear hfz19_0
         try clear hfz19_1
         try clear hfz21_0
         try clear hfz21_1
         try clear hfz25_0
         try clear hfz25_1
         try clear hfz28_0
         try clear hfz28_1
         try clear p2
         obtain ⟨x9_3,x10_3,x11_3,rfl,rfl,rfl,HA,HK3,HO_493001,BK492,HB⟩:=hrel
         cases gk with
         | zero => exact absurd HA.out (by simp [laws_FnForSteps.l0])
         | succ k3 =>
          have H:=HA.out
          clear HA
          simp only [laws_FnForSteps.l0] at H
          by_cases c29 : x11_3 < ((l1.length : Int) % (wrap64 ((t488.length : Int) + 1)))
          ·rw [if_pos c29] at H
           have c29b0 : decide (x11_3 < ((l1.length : Int) % (wrap64 ((t488.length : Int) + 1)))) = true:=decide_eq_true c29
           clear c29
           by_cases c30 : 0 ≤ x11_3
           rotate_left
           ·rw [if_neg c30] at H
            exact absurd H (by simp)
           rw [if_pos c30] at H
           have c30b0 : decide (0 ≤ x11_3) = true:=decide_eq_true c30
           clear c30
           by_cases c31 : x11_3 < (t488.length : Int)
           rotate_left
           ·rw [if_neg c31] at H
            exact absurd H (by simp)
           rw [if_pos c31] at H
           have c31b0 : decide (x11_3 < (t488.length : Int)) = true:=decide_eq_true c31
           clear c31
           have H':=m_ H
           clear H
           have hcz32_0 : wr.cell? ⟨gb492,0,none⟩ = some (.string t487):=(c_ BK492.out 0).trans rfl
           have hcz32_1 : wr.cell? ⟨gb492,1,none⟩ = some (.slice Ao12 t488.length co12):=(c_ BK492.out 1).trans rfl
           have hfz32_0:=f_ BK492.out 0
           have hfz32_1:=f_ BK492.out 1
           have p497 : 0 ≤ (x11_3 : Int):=of_decide_eq_true asm
           have q497 : x11_3 < (t488.length : Int):=of_decide_eq_true asm
           obtain ⟨ad497,e497,hx497_0,hx497_1⟩:=at_T31 (Kd.R_reads' HO_493001.out).2.2 x11_3 p497 q497
           cases e497
           replace p497:=eq_true p497
           replace q497:=eq_true q497
           have p498 : 0 ≤ (x11_3 : Int):=of_decide_eq_true asm
           have q498 : x11_3 < (t488.length : Int):=of_decide_eq_true asm
           obtain ⟨ad498,e498,hx498_0,hx498_1⟩:=at_T31 (Kd.R_reads' HO_493001.out).2.2 x11_3 p498 q498
           obtain rfl : ad497 = ad498:=(by injection e498)
           replace p498:=eq_true p498
           replace q498:=eq_true q498
           go_wp2
           go_roundg k3
           case measure=>have:=HJ2.out;have:=HJ7.out;have:=HK3.out;omega
           case rel=>exact ⟨(wrap64 (x9_3 + ((rd_T31 t488 x11_3).f0))),(wrap64 (x10_3 + (((rd_T31 t488 x11_3).f1).size : Int))),(wrap64 (x11_3 + 1)),(by first|rfl|(simp;done)|(simp [*];done)),(by first|rfl|(simp;done)|(simp [*];done)),(by first|rfl|(simp;done)|(simp [*];done)),H',⟨by have:=HJ2.out;have:=HJ7.out;have:=HK3.out;omega⟩,⟨by (with_reducible repeat (first|apply Kd.R_alloc|apply Kd.R_drewN|apply Kd.R_drew));exact HO_493001.out⟩,⟨by (with_reducible repeat first|apply b1_|apply b2_|apply b3_);exact BK492.out⟩,⟨puM HB.out GE492.out⟩⟩
          ·rw [if_neg c29] at H
           have c29b0 : decide (x11_3 < ((l1.length : Int) % (wrap64 ((t488.length : Int) + 1)))) = false:=decide_eq_false c29
           clear c29
           replace H:=Option.bind_eq_some_iff.mp H
           obtain ⟨t499,A330,H⟩:=H
           have A33:=m_ A330
           clear A330
           by_cases c34 : t499 = x10_3
           ·rw [if_pos c34] at H
            have c34b0 : (t499 == x10_3) = true:=beq_iff_eq.mpr c34
            have c34b1 : (t499 != x10_3) = false:=bne_eq_false_iff_eq.mpr c34
            clear c34
            replace H:=Option.bind_eq_some_iff.mp H
            obtain ⟨t500,A350,H⟩:=H
            have A35:=m_ A350
            clear A350
            obtain rfl:=Option.some.inj H
            have hcz36_0 : wr.cell? ⟨gb492,0,none⟩ = some (.string t487):=(c_ BK492.out 0).trans rfl
            have hcz36_1 : wr.cell? ⟨gb492,1,none⟩ = some (.slice Ao12 t488.length co12):=(c_ BK492.out 1).trans rfl
            have hfz36_0:=f_ BK492.out 0
            have hfz36_1:=f_ BK492.out 1
            go_wp2_with (first|((with_reducible refine gate_callee (f:=9) rfl ?_);refine goesL_ (some 74) rfl rfl Tryz.func9 (by kernel_rfl) rfl #[.agg #[.string t487,.slice Ao12 t488.length co12],.int .i64 x9_3] rfl lens ?_;(with_reducible refine (impl_StreamFor.calls k3 t487 _ _ t488 x9_3 t499 _ ?side1 ?side2 ?side3 A33.out).mono ?_);(case side1=>exact puC (Kd.R_reads' HO_493001.out).2.2);(case side2=>exact (Kd.R_reads' HO_493001.out).2.1);(case side3=>first|(with_reducible exact HG.out)|exact GV_below HG.out (puM HB.out GE492.out));rintro e w37 ⟨rfl,hb⟩;refine ⟨_,rfl,?_⟩;have n0_:=m_ (Kd.R_below (puR HO_493001.out) hb);have n1_:=m_ (blk_below (g:=gb492) (o:=.cells #[.string t487,.slice Ao12 t488.length co12] 25 (0,0)) (puB BK492.out) hb);have n2_:=m_ (l5_ (puM HB.out GE492.out) hb);revert n0_ n1_ n2_;clear HO_493001 BK492 HB;intro HO_493001 BK492 HB;(try clear hb);(try clear hb2);(try clear hk);(try clear hi);have hcz38_0 : w37.cell? ⟨gb492,0,none⟩ = some (.string t487):=(c_ BK492.out 0).trans rfl;have hcz38_1 : w37.cell? ⟨gb492,1,none⟩ = some (.slice Ao12 t488.length co12):=(c_ BK492.out 1).trans rfl;have hfz38_0:=f_ BK492.out 0;have hfz38_1:=f_ BK492.out 1)|(go_at_call 12;(with_reducible refine (impl_StreamBack.calls k3 t487 _ _ t488 x10_3 t500 _ ?side1 ?side2 ?side3 A35.out).mono ?_);(case side1=>exact puC (Kd.R_reads' HO_493001.out).2.2);(case side2=>exact (Kd.R_reads' HO_493001.out).2.1);(case side3=>first|(with_reducible exact HG.out)|exact GV_below HG.out (puM HB.out GE492.out));rintro e w39 ⟨rfl,hb⟩;have n0_:=m_ (Kd.R_below (puR HO_493001.out) hb);have n1_:=m_ (blk_below (g:=gb492) (o:=.cells #[.string t487,.slice Ao12 t488.length co12] 25 (0,0)) (puB BK492.out) hb);have n2_:=m_ (l5_ (puM HB.out GE492.out) hb);revert n0_ n1_ n2_;clear HO_493001 BK492 HB;intro HO_493001 BK492 HB;(try clear hb);(try clear hb2);(try clear hk);(try clear hi)))
            go_ret
            exact ⟨eqs,puM HB.out GE492.out⟩
           ·rw [if_neg c34] at H
            have c34b0 : (t499 == x10_3) = false:=beq_eq_false_iff_ne.mpr c34
            have c34b1 : (t499 != x10_3) = true:=bne_iff_ne.mpr c34
            obtain rfl:=Option.some.inj H
            have hcz40_0 : wr.cell? ⟨gb492,0,none⟩ = some (.string t487):=(c_ BK492.out 0).trans rfl
            have hcz40_1 : wr.cell? ⟨gb492,1,none⟩ = some (.slice Ao12 t488.length co12):=(c_ BK492.out 1).trans rfl
            have hfz40_0:=f_ BK492.out 0
            have hfz40_1:=f_ BK492.out 1
            go_wp2_with (first|((with_reducible refine gate_callee (f:=9) rfl ?_);refine goesL_ (some 74) rfl rfl Tryz.func9 (by kernel_rfl) rfl #[.agg #[.string t487,.slice Ao12 t488.length co12],.int .i64 x9_3] rfl lens ?_;(with_reducible refine (impl_StreamFor.calls k3 t487 _ _ t488 x9_3 t499 _ ?side1 ?side2 ?side3 A33.out).mono ?_);(case side1=>exact puC (Kd.R_reads' HO_493001.out).2.2);(case side2=>exact (Kd.R_reads' HO_493001.out).2.1);(case side3=>first|(with_reducible exact HG.out)|exact GV_below HG.out (puM HB.out GE492.out));rintro e w41 ⟨rfl,hb⟩;refine ⟨_,rfl,?_⟩;have n0_:=m_ (Kd.R_below (puR HO_493001.out) hb);have n1_:=m_ (blk_below (g:=gb492) (o:=.cells #[.string t487,.slice Ao12 t488.length co12] 25 (0,0)) (puB BK492.out) hb);have n2_:=m_ (l5_ (puM HB.out GE492.out) hb);revert n0_ n1_ n2_;clear HO_493001 BK492 HB;intro HO_493001 BK492 HB;(try clear hb);(try clear hb2);(try clear hk);(try clear hi)))
            go_ret
            exact ⟨eqs,puM HB.out GE492.out⟩

/-- THE ONE PURE STATEMENT of laws_FnForSteps: yours. -/
def laws_FnForSteps.Pure : Prop := ∀ (l0 : List Int) (l1 : List Int), l0.length ≤ maxLen → l0.length * 1 ≤ 140737488351232 → (∀ x ∈ l0, (Lit.int .u8 x).wf = true) → l1.length ≤ maxLen → l1.length * 1 ≤ 140737488351232 → (∀ x ∈ l1, (Lit.int .u8 x).wf = true) → ∃ k, laws_FnForSteps.f k l0 l1 = some true
theorem laws_FnForSteps.walk (P : laws_FnForSteps.Pure) (a0 : Option Addr) (len0 cap0 : Nat) (z0 : List Int) (a1 : Option Addr) (len1 cap1 : Nat) (z1 : List Int) (w : World) (hG : GV w) (w0 : (a0 = none ∧ len0 = 0 ∧ cap0 = 0 ∧ z0 = []) ∨ ∃ x, a0 = some x ∧ len0 ≤ cap0 ∧ cap0 ≤ maxLen ∧ z0.length = cap0 ∧ (∀ i, i < z0.length → w.cell? (x.add i) = some (.int .u8 (z0.getD i 0))) ∧ ∀ n ∈ z0, (Lit.int .u8 n).wf = true) (y0 : len0 * 1 ≤ 140737488351232) (w1 : (a1 = none ∧ len1 = 0 ∧ cap1 = 0 ∧ z1 = []) ∨ ∃ x, a1 = some x ∧ len1 ≤ cap1 ∧ cap1 ≤ maxLen ∧ z1.length = cap1 ∧ (∀ i, i < z1.length → w.cell? (x.add i) = some (.int .u8 (z1.getD i 0))) ∧ ∀ n ∈ z1, (Lit.int .u8 n).wf = true) (y1 : len1 * 1 ≤ 140737488351232) :
  Calls Tryz.prog 3 #[.slice a0 len0 cap0,.slice a1 len1 cap1] w fun e w'=>e = .returned (.bool true) ∧ Below w.heap.size w w':=by
 obtain ⟨l0,rfl,hr0,hm0,hw0,hc0⟩:=ReadsInt.ofRowC w0
 obtain ⟨l1,rfl,hr1,hm1,hw1,hc1⟩:=ReadsInt.ofRowC w1
 obtain ⟨k,h⟩:=P l0 l1 hm0 y0 hw0 hm1 y1 hw1
 refine (laws_FnForSteps.calls k _ _ l0 _ _ l1 true w (Kd.C_of_reads (d:=(0 : Int)) (h1:=fun _=>rfl) hr0) hc0 (Kd.C_of_reads (d:=(0 : Int)) (h1:=fun _=>rfl) hr1) hc1 hG h).mono ?_
 rintro e w' ⟨rfl,hd⟩
 exact ⟨rfl,hd⟩

end Go.Proofs.YtkcjmmhleepjeaaGreatDoor.A
