-- Printed by myprint.py (wip/tools) out of the translation. Not trusted: Lean checks it.
import Derived.Test.YtkcjmmhleepjeaaGreatDoorAx0
import Derived.Test.YtkcjmmhleepjeaaGreatDoorAx16
import Derived.Test.YtkcjmmhleepjeaaGreatDoorAx18
import Derived.Test.YtkcjmmhleepjeaaGreatDoorAx19
import Derived.Test.YtkcjmmhleepjeaaGreatDoorAx20
namespace Go.Proofs.YtkcjmmhleepjeaaGreatDoor.A
open Go.RowKit Go.Proofs.YtkcjmmhleepjeaaGreatDoorW.PrintWords Go.Proofs.YtkcjmmhleepjeaaGreatDoorW.PrintLast Go.Proofs.YtkcjmmhleepjeaaGreatDoorW.PrintMore
attribute [local go_sem] max2_int min2_int max_two min_two max_three min_three max_four min_four
set_option linter.unusedVariables false
set_option linter.unusedSimpArgs false

/-! ### laws_FnStreamBoth: function 4 -/
def laws_FnStreamBoth.j0 : Nat → Int → Int → Bool → ByteArray → List (S31) → Option (Bool)
 | 0, _, _, _, _, _ => none
 | k + 1, x4, x5, x38, x507000, x507001 => if x38 = true then ((spec_StreamFor.f k x507000 x507001 x4).bind fun t510 => (some (x5 == t510))) else ((impl_StreamBack.f k x507000 x507001 x5).bind fun t511 => (if t511 ≤ x4 then (if (wrap64 (x4 - t511)) ≤ 5 then ((impl_StreamFor.f k x507000 x507001 t511).bind fun t512 => (if t512 = x5 then ((impl_StreamFor.f k x507000 x507001 t511).bind fun t513 => ((impl_StreamBack.f k x507000 x507001 t513).bind fun t514 => (some (t514 == t511)))) else (some false))) else (some false)) else (some false)))
def laws_FnStreamBoth.f (k : Nat) (l0 : List Int) : Option (Bool) := if (l0.length : Int) > 1048576 then (some true) else ((spec_DrawStreamFor.f k l0).bind fun bt501 => ((impl_StreamFor.f k bt501.1 bt501.2.1 bt501.2.2).bind fun t507 => ((spec_StreamFor.f k bt501.1 bt501.2.1 bt501.2.2).bind fun t508 => (if t507 = t508 then ((spec_StreamOk.f k bt501.1 bt501.2.1).bind fun t509 => (if t509 = true then (if bt501.2.2 < 0 then (laws_FnStreamBoth.j0 k bt501.2.2 t507 true bt501.1 bt501.2.1) else (laws_FnStreamBoth.j0 k bt501.2.2 t507 (decide (bt501.2.2 > (bt501.1.size : Int))) bt501.1 bt501.2.1)) else (laws_FnStreamBoth.j0 k bt501.2.2 t507 true bt501.1 bt501.2.1))) else (laws_FnStreamBoth.j0 k bt501.2.2 t507 true bt501.1 bt501.2.1)))))
theorem laws_FnStreamBoth.mono_l : ∀ k, (∀ y0 y1 y2 y3 y4, LeO (laws_FnStreamBoth.j0 k y0 y1 y2 y3 y4) (laws_FnStreamBoth.j0 (k + 1) y0 y1 y2 y3 y4))
 | 0 => fun _ _ _ _ _ r h => by simp [laws_FnStreamBoth.j0] at h
 | k + 1 => by
  have ih0:=laws_FnStreamBoth.mono_l k
  ·intro y0 y1 y2 y3 y4
   unfold laws_FnStreamBoth.j0
   exact leo6 ih0 impl_StreamBack.mono impl_StreamFor.mono spec_DrawStreamFor.mono spec_StreamFor.mono spec_StreamOk.mono
theorem laws_FnStreamBoth.mono : ∀ a0 k, LeO (laws_FnStreamBoth.f k a0) (laws_FnStreamBoth.f (k + 1) a0) := by
 intro a0 k
 have ih0:=laws_FnStreamBoth.mono_l k
 unfold laws_FnStreamBoth.f
 exact leo6 ih0 impl_StreamBack.mono impl_StreamFor.mono spec_DrawStreamFor.mono spec_StreamFor.mono spec_StreamOk.mono
def laws_FnStreamBoth.T8 : Bool × List (List Nat × List Nat) := (true, [([], []), ([], []), ([0, 1], [0, 1]), ([2], [2]), ([3], [3]), ([3], [3]), ([4, 5, 3], [3, 4, 5]), ([6, 3], [3, 6]), ([3, 7], [3, 7]), ([8, 3], [8]), ([9], [9]), ([9], [9]), ([10, 11, 9, 9], [9, 10, 11]), ([9], [9]), ([12, 13, 9], [9, 12, 13]), ([9, 14], [9, 14]), ([15, 12], [15]), ([16], [16]), ([16], [16]), ([16], [16]), ([18, 19, 16, 16], [16, 18, 19]), ([17, 20, 20, 16], [16, 17, 20]), ([16], [16]), ([21, 22, 16], [16, 21, 22]), ([16, 23], [16, 23]), ([24, 21, 0, 1, 2, 3, 4, 5, 6, 7, 8, 9, 10, 11, 12, 13, 14, 15, 16, 17, 18, 19, 20, 21, 22, 23, 24], [24])])
def laws_FnStreamBoth.B8 : List Nat := [0, 0, 3, 7, 15, 15, 63, 127, 255, 511, 1023, 1023, 4095, 1023, 16383, 32767, 65535, 131071, 131071, 131071, 917503, 2097151, 131071, 8388607, 16777215, 33554431]
theorem laws_FnStreamBoth.tab8 : rtab .any (opsOf Tryz.f4 8) = laws_FnStreamBoth.T8 := by kernel_rfl
theorem laws_FnStreamBoth.bits8 : waitsOk laws_FnStreamBoth.T8.2 laws_FnStreamBoth.B8 = true := by kernel_rfl
set_option maxHeartbeats 8000000 in
set_option maxRecDepth 100000 in
theorem laws_FnStreamBoth.calls (k : Nat) (A0 : Option Addr) (c0 : Nat) (l0 : List Int) (r : Bool) (w : World) (hr0 : Kd.C (Kd.int .u8) w A0 l0.length l0) (hc0 : l0.length ≤ c0) (hG : GV w) (h : laws_FnStreamBoth.f k l0 = some r) :
  Calls Tryz.prog 4 #[.slice A0 l0.length c0] w fun e w'=>e = .returned (.bool r) ∧ Below w.heap.size w w':=by
 have hu25:=Tryz.underlying25
 have HG:=m_ hG
 clear hG
 have HR0:=m_ hr0
 have HC0:=m_ hc0
 clear hr0 hc0
 have HB:=m_ (Below.refl w.heap.size w)
 have H : (if (l0.length : Int) > 1048576 then (some true) else ((spec_DrawStreamFor.f k l0).bind fun bt501=>((impl_StreamFor.f k bt501.1 bt501.2.1 bt501.2.2).bind fun t507=>((spec_StreamFor.f k bt501.1 bt501.2.1 bt501.2.2).bind fun t508=>(if t507 = t508 then ((spec_StreamOk.f k bt501.1 bt501.2.1).bind fun t509=>(if t509 = true then (if bt501.2.2 < 0 then (laws_FnStreamBoth.j0 k bt501.2.2 t507 true bt501.1 bt501.2.1) else (laws_FnStreamBoth.j0 k bt501.2.2 t507 (decide (bt501.2.2 > (bt501.1.size : Int))) bt501.1 bt501.2.1)) else (laws_FnStreamBoth.j0 k bt501.2.2 t507 true bt501.1 bt501.2.1))) else (laws_FnStreamBoth.j0 k bt501.2.2 t507 true bt501.1 bt501.2.1)))))) = some r:=h
 clear h
 by_cases c2 : (l0.length : Int) > 1048576
 ·rw [if_pos c2] at H
  have c2b0 : decide (1048576 < (l0.length : Int)) = true:=decide_eq_true c2
  have c2b1 : decide (1048576 < l0.length) = true:=decide_eq_true (by omega)
  clear c2
  obtain rfl:=Option.some.inj H
  go_enter Tryz.func4,Tryz.ntmps4
  go_wp2
  go_ret
  exact ⟨eqs,puL HB.out⟩
 ·rw [if_neg c2] at H
  have c2b0 : decide (1048576 < (l0.length : Int)) = false:=decide_eq_false c2
  have c2b1 : decide (1048576 < l0.length) = false:=decide_eq_false (by omega)
  clear c2
  replace H:=Option.bind_eq_some_iff.mp H
  obtain ⟨⟨t501,t502,t505⟩,A30,H⟩:=H
  replace H : ((impl_StreamFor.f k t501 t502 t505).bind fun t507=>((spec_StreamFor.f k t501 t502 t505).bind fun t508=>(if t507 = t508 then ((spec_StreamOk.f k t501 t502).bind fun t509=>(if t509 = true then (if t505 < 0 then (laws_FnStreamBoth.j0 k t505 t507 true t501 t502) else (laws_FnStreamBoth.j0 k t505 t507 (decide (t505 > (t501.size : Int))) t501 t502)) else (laws_FnStreamBoth.j0 k t505 t507 true t501 t502))) else (laws_FnStreamBoth.j0 k t505 t507 true t501 t502)))) = some r:=H
  have A3:=m_ A30
  clear A30
  replace H:=Option.bind_eq_some_iff.mp H
  obtain ⟨t507,A40,H⟩:=H
  have A4:=m_ A40
  clear A40
  have HC5:=m_ H
  clear H
  go_enter Tryz.func4,Tryz.ntmps4
  go_upto_region 5 with (first|((with_reducible refine gate_callee (f:=8) rfl ?_);refine goesL_ (some 12) rfl rfl Tryz.func8 (by kernel_rfl) rfl #[.slice A0 l0.length c0] rfl lens ?_;(with_reducible refine (spec_DrawStreamFor.calls k _ _ l0 t501 t502 t505 _ ?side1 ?side2 A3.out).mono ?_);(case side1=>repeat (first|exact HR0.out|(with_reducible refine Kd.C_alloc ?_ _)|(with_reducible refine Kd.C_drewN ?_ _)|(with_reducible refine Kd.C_drew ?_)));(case side2=>exact HC0.out);rintro e w6 ⟨v503,rfl,ho0,hb⟩;refine ⟨_,rfl,?_⟩;have n0_:=m_ (Kd.R_lower ho0 (l6_ (puL HB.out)));have n1_:=m_ (l5_ (puL HB.out) hb);revert n0_ n1_;clear HB;intro HO504 HB;(try clear hb);(try clear hb2);(try clear hk);(try clear hi);(try clear ho0))|((with_reducible refine gate_dst (N:=3) rfl ?_);(try (refine gate_guard (by rfl) ?_;dsimp only));refine box_event ?hg (N:=3) ?hd (cs:=#[.string (⟨#[]⟩ : ByteArray),.slice none 0 0]) (t:=25) ?hr ?_;(case hd=>rfl);(case hg=>rfl);(case hr=>first|(go_simp;done)|(go_simp;rfl));intro gb506 hg w7 hbox hb;have n0_:=m_ (Kd.R_below (puR HO504.out) hb);have n1_:=m_ (l5_ (puL HB.out) hb);have n2_:=m_ (hbox);have n3_:=m_ ((by rw [hg];exact (l6_ (puL HB.out)) : w.heap.size ≤ gb506));have n4_:=m_ ((by rw [hg];exact (l6_ (puL HB.out)) : w.heap.size ≤ gb506));revert n0_ n1_ n2_ n3_ n4_;clear HO504 HB;intro HO504 HB BK506 GW506 GE506;clear hb hbox hg;have hcz8_0 : w7.cell? ⟨gb506,0,none⟩ = some (.string (⟨#[]⟩ : ByteArray)):=(c_ BK506.out 0).trans rfl;have hcz8_1 : w7.cell? ⟨gb506,1,none⟩ = some (.slice none 0 0):=(c_ BK506.out 1).trans rfl;have hfz8_0:=f_ BK506.out 0;have hfz8_1:=f_ BK506.out 1;obtain ⟨Ao9,co9,eo9⟩:=Kd.R_slice HO504.out;subst eo9)|((with_reducible refine gate_callee (f:=9) rfl ?_);refine goesL_ (some 17) rfl rfl Tryz.func9 (by kernel_rfl) rfl #[.agg #[.string t501,.slice Ao9 t502.length co9],.int .i64 t505] rfl lens ?_;(with_reducible refine (impl_StreamFor.calls k t501 _ _ t502 t505 t507 _ ?side1 ?side2 ?side3 A4.out).mono ?_);(case side1=>refine (Kd.R_reads' (e:=31) (base:=w.heap.size) (ok:=fun k_=>True) (n:=t502.length) (c:=co9) ?_).2.2;exact (by (with_reducible repeat (first|apply Kd.R_alloc|apply Kd.R_drewN|apply Kd.R_drew));exact (Kd.R_mono (Kd.R_far (p:=⟨gb506,1,none⟩) (Kd.R_far (p:=⟨gb506,0,none⟩) (Kd.R_types HO504.out BK506.out (by decide)) (fun _ hk=>hk.2) (.string t501)) (fun _ hk=>hk.2) (.slice Ao9 t502.length co9)) (fun _ h_=>h_.1))));(case side2=>exact (Kd.R_reads' HO504.out).2.1);(case side3=>first|(with_reducible exact HG.out)|exact GV_below HG.out (puM HB.out GE506.out));rintro e w10 ⟨rfl,hb⟩;refine ⟨_,rfl,?_⟩;have n0_:=m_ (Kd.R_below (by (with_reducible repeat (first|apply Kd.R_alloc|apply Kd.R_drewN|apply Kd.R_drew));exact (Kd.R_mono (Kd.R_far (p:=⟨gb506,1,none⟩) (Kd.R_far (p:=⟨gb506,0,none⟩) (Kd.R_types HO504.out BK506.out (by decide)) (fun _ hk=>hk.2) (.string t501)) (fun _ hk=>hk.2) (.slice Ao9 t502.length co9)) (fun _ h_=>h_.1))) hb);have n1_:=m_ (blk_below (g:=gb506) (o:=.cells #[.string t501,.slice Ao9 t502.length co9] 25 (0,0)) (by (with_reducible repeat first|apply b1_|apply b2_|apply b3_);refine blk_put (cs:=#[.string t501,.slice none 0 0]) ?_ 1 _ rfl;(with_reducible repeat first|apply b1_|apply b2_|apply b3_);refine blk_put (cs:=#[.string (⟨#[]⟩ : ByteArray),.slice none 0 0]) ?_ 0 _ rfl;(with_reducible repeat first|apply b1_|apply b2_|apply b3_);exact BK506.out) hb);have n2_:=m_ (l5_ (puM HB.out GE506.out) hb);revert n0_ n1_ n2_;clear HO504 BK506 HB;intro HO504 BK506 HB;(try clear hb);(try clear hb2);(try clear hk);(try clear hi)))
  (try simp only [Act.put,s1_,s2_,s3_])
  go_cut [38] (fun v38 wc=>∃ (kq : Nat) (x38_4 : Bool),v38 = .bool x38_4 ∧ Aside0 (laws_FnStreamBoth.j0 kq t505 t507 x38_4 t501 t502 = some r) ∧ Aside0 (kq ≤ k) ∧ Aside0 (Kd.R k31 31 wc w.heap.size (fun _=>True) (.slice Ao9 t502.length co9) t502) ∧ Aside0 (wc.heap[gb506]? = some (.cells #[.string t501,(.slice Ao9 t502.length co9)] 25 (0,0))) ∧ Aside0 (Below w.heap.size w wc))
  case first =>
   have H:=HC5.out
   clear HC5
   replace H:=Option.bind_eq_some_iff.mp H
   obtain ⟨t508,A110,H⟩:=H
   have A11:=m_ A110
   clear A110
   by_cases c12 : t507 = t508
   ·rw [if_pos c12] at H
    have c12b0 : (t507 == t508) = true:=beq_iff_eq.mpr c12
    have c12b1 : (t507 != t508) = false:=bne_eq_false_iff_eq.mpr c12
    clear c12
    (first|rw [c12b0]|(simp only [i64_w,i32_w];rw [c12b0])|skip)
    replace H:=Option.bind_eq_some_iff.mp H
    obtain ⟨t509,A130,H⟩:=H
    have A13:=m_ A130
    clear A130
    by_cases c14 : t509 = true
    ·subst c14
     replace H:=ifp H rfl
     by_cases c15 : t505 < 0
     ·rw [if_pos c15] at H
      have c15b0 : decide (t505 < 0) = true:=decide_eq_true c15
      clear c15
      have H':=m_ H
      clear H
      have hcz16_0 : w10.cell? ⟨gb506,0,none⟩ = some (.string t501):=(c_ BK506.out 0).trans rfl
      have hcz16_1 : w10.cell? ⟨gb506,1,none⟩ = some (.slice Ao9 t502.length co9):=(c_ BK506.out 1).trans rfl
      have hfz16_0:=f_ BK506.out 0
      have hfz16_1:=f_ BK506.out 1
      go_wp2_with (first|((with_reducible refine gate_callee (f:=10) rfl ?_);refine goesL_ (some 21) rfl rfl Tryz.func10 (by kernel_rfl) rfl #[.agg #[.string t501,.slice Ao9 t502.length co9],.int .i64 t505] rfl lens ?_;(with_reducible refine (spec_StreamFor.calls k t501 _ _ t502 t505 t508 _ ?side1 ?side2 A11.out).mono ?_);(case side1=>exact puC (Kd.R_reads' HO504.out).2.2);(case side2=>exact (Kd.R_reads' HO504.out).2.1);rintro e w17 ⟨rfl,hb⟩;refine ⟨_,rfl,?_⟩;have n0_:=m_ (Kd.R_below (puR HO504.out) hb);have n1_:=m_ (blk_below (g:=gb506) (o:=.cells #[.string t501,.slice Ao9 t502.length co9] 25 (0,0)) (puB BK506.out) hb);have n2_:=m_ (l5_ (puM HB.out GE506.out) hb);revert n0_ n1_ n2_;clear HO504 BK506 HB;intro HO504 BK506 HB;(try clear hb);(try clear hb2);(try clear hk);(try clear hi);have hcz18_0 : w17.cell? ⟨gb506,0,none⟩ = some (.string t501):=(c_ BK506.out 0).trans rfl;have hcz18_1 : w17.cell? ⟨gb506,1,none⟩ = some (.slice Ao9 t502.length co9):=(c_ BK506.out 1).trans rfl;have hfz18_0:=f_ BK506.out 0;have hfz18_1:=f_ BK506.out 1)|(go_at_call 11;(with_reducible refine (spec_StreamOk.calls k t501 _ _ t502 true _ ?side1 ?side2 A13.out).mono ?_);(case side1=>exact puC (Kd.R_reads' HO504.out).2.2);(case side2=>exact (Kd.R_reads' HO504.out).2.1);rintro e w19 ⟨rfl,hb⟩;have n0_:=m_ (Kd.R_below (puR HO504.out) hb);have n1_:=m_ (blk_below (g:=gb506) (o:=.cells #[.string t501,.slice Ao9 t502.length co9] 25 (0,0)) (puB BK506.out) hb);have n2_:=m_ (l5_ (puM HB.out GE506.out) hb);revert n0_ n1_ n2_;clear HO504 BK506 HB;intro HO504 BK506 HB;(try clear hb);(try clear hb2);(try clear hk);(try clear hi)))
      go_meet
      case rel=>exact ⟨_,(true),(by first|rfl|(simp;done)|(simp [*];done)),H',⟨by first|omega|exact Nat.le_refl _⟩,⟨by (with_reducible repeat (first|apply Kd.R_alloc|apply Kd.R_drewN|apply Kd.R_drew));exact HO504.out⟩,⟨by (with_reducible repeat first|apply b1_|apply b2_|apply b3_);exact BK506.out⟩,⟨puM HB.out GE506.out⟩⟩
     ·rw [if_neg c15] at H
      have c15b0 : decide (t505 < 0) = false:=decide_eq_false c15
      clear c15
      have H':=m_ H
      clear H
      have hcz20_0 : w10.cell? ⟨gb506,0,none⟩ = some (.string t501):=(c_ BK506.out 0).trans rfl
      have hcz20_1 : w10.cell? ⟨gb506,1,none⟩ = some (.slice Ao9 t502.length co9):=(c_ BK506.out 1).trans rfl
      have hfz20_0:=f_ BK506.out 0
      have hfz20_1:=f_ BK506.out 1
      go_wp2_with (first|((with_reducible refine gate_callee (f:=10) rfl ?_);refine goesL_ (some 21) rfl rfl Tryz.func10 (by kernel_rfl) rfl #[.agg #[.string t501,.slice Ao9 t502.length co9],.int .i64 t505] rfl lens ?_;(with_reducible refine (spec_StreamFor.calls k t501 _ _ t502 t505 t508 _ ?side1 ?side2 A11.out).mono ?_);(case side1=>exact puC (Kd.R_reads' HO504.out).2.2);(case side2=>exact (Kd.R_reads' HO504.out).2.1);rintro e w21 ⟨rfl,hb⟩;refine ⟨_,rfl,?_⟩;have n0_:=m_ (Kd.R_below (puR HO504.out) hb);have n1_:=m_ (blk_below (g:=gb506) (o:=.cells #[.string t501,.slice Ao9 t502.length co9] 25 (0,0)) (puB BK506.out) hb);have n2_:=m_ (l5_ (puM HB.out GE506.out) hb);revert n0_ n1_ n2_;clear HO504 BK506 HB;intro HO504 BK506 HB;(try clear hb);(try clear hb2);(try clear hk);(try clear hi);have hcz22_0 : w21.cell? ⟨gb506,0,none⟩ = some (.string t501):=(c_ BK506.out 0).trans rfl;have hcz22_1 : w21.cell? ⟨gb506,1,none⟩ = some (.slice Ao9 t502.length co9):=(c_ BK506.out 1).trans rfl;have hfz22_0:=f_ BK506.out 0;have hfz22_1:=f_ BK506.out 1)|(go_at_call 11;(with_reducible refine (spec_StreamOk.calls k t501 _ _ t502 true _ ?side1 ?side2 A13.out).mono ?_);(case side1=>exact puC (Kd.R_reads' HO504.out).2.2);(case side2=>exact (Kd.R_reads' HO504.out).2.1);rintro e w23 ⟨rfl,hb⟩;have n0_:=m_ (Kd.R_below (puR HO504.out) hb);have n1_:=m_ (blk_below (g:=gb506) (o:=.cells #[.string t501,.slice Ao9 t502.length co9] 25 (0,0)) (puB BK506.out) hb);have n2_:=m_ (l5_ (puM HB.out GE506.out) hb);revert n0_ n1_ n2_;clear HO504 BK506 HB;intro HO504 BK506 HB;(try clear hb);(try clear hb2);(try clear hk);(try clear hi);have hcz24_0 : w23.cell? ⟨gb506,0,none⟩ = some (.string t501):=(c_ BK506.out 0).trans rfl;have hcz24_1 : w23.cell? ⟨gb506,1,none⟩ = some (.slice Ao9 t502.length co9):=(c_ BK506.out 1).trans rfl;have hfz24_0:=f_ BK506.out 0;have hfz24_1:=f_ BK506.out 1))
      go_meet
      case rel=>exact ⟨_,(decide (t505 > (t501.size : Int))),(by first|rfl|(simp;done)|(simp [*];done)),H',⟨by first|omega|exact Nat.le_refl _⟩,⟨by (with_reducible repeat (first|apply Kd.R_alloc|apply Kd.R_drewN|apply Kd.R_drew));exact HO504.out⟩,⟨by (with_reducible repeat first|apply b1_|apply b2_|apply b3_);exact BK506.out⟩,⟨puM HB.out GE506.out⟩⟩
    ·replace c14:=Bool.eq_false_iff.mpr c14
     subst c14
     replace H:=ifn H
     have H':=m_ H
     clear H
     have hcz25_0 : w10.cell? ⟨gb506,0,none⟩ = some (.string t501):=(c_ BK506.out 0).trans rfl
     have hcz25_1 : w10.cell? ⟨gb506,1,none⟩ = some (.slice Ao9 t502.length co9):=(c_ BK506.out 1).trans rfl
     have hfz25_0:=f_ BK506.out 0
     have hfz25_1:=f_ BK506.out 1
     go_wp2_with (first|((with_reducible refine gate_callee (f:=10) rfl ?_);refine goesL_ (some 21) rfl rfl Tryz.func10 (by kernel_rfl) rfl #[.agg #[.string t501,.slice Ao9 t502.length co9],.int .i64 t505] rfl lens ?_;(with_reducible refine (spec_StreamFor.calls k t501 _ _ t502 t505 t508 _ ?side1 ?side2 A11.out).mono ?_);(case side1=>exact puC (Kd.R_reads' HO504.out).2.2);(case side2=>exact (Kd.R_reads' HO504.out).2.1);rintro e w26 ⟨rfl,hb⟩;refine ⟨_,rfl,?_⟩;have n0_:=m_ (Kd.R_below (puR HO504.out) hb);have n1_:=m_ (blk_below (g:=gb506) (o:=.cells #[.string t501,.slice Ao9 t502.length co9] 25 (0,0)) (puB BK506.out) hb);have n2_:=m_ (l5_ (puM HB.out GE506.out) hb);revert n0_ n1_ n2_;clear HO504 BK506 HB;intro HO504 BK506 HB;(try clear hb);(try clear hb2);(try clear hk);(try clear hi);have hcz27_0 : w26.cell? ⟨gb506,0,none⟩ = some (.string t501):=(c_ BK506.out 0).trans rfl;have hcz27_1 : w26.cell? ⟨gb506,1,none⟩ = some (.slice Ao9 t502.length co9):=(c_ BK506.out 1).trans rfl;have hfz27_0:=f_ BK506.out 0;have hfz27_1:=f_ BK506.out 1)|(go_at_call 11;(with_reducible refine (spec_StreamOk.calls k t501 _ _ t502 false _ ?side1 ?side2 A13.out).mono ?_);(case side1=>exact puC (Kd.R_reads' HO504.out).2.2);(case side2=>exact (Kd.R_reads' HO504.out).2.1);rintro e w28 ⟨rfl,hb⟩;have n0_:=m_ (Kd.R_below (puR HO504.out) hb);have n1_:=m_ (blk_below (g:=gb506) (o:=.cells #[.string t501,.slice Ao9 t502.length co9] 25 (0,0)) (puB BK506.out) hb);have n2_:=m_ (l5_ (puM HB.out GE506.out) hb);revert n0_ n1_ n2_;clear HO504 BK506 HB;intro HO504 BK506 HB;(try clear hb);(try clear hb2);(try clear hk);(try clear hi)))
     go_meet
     case rel=>exact ⟨_,(true),(by first|rfl|(simp;done)|(simp [*];done)),H',⟨by first|omega|exact Nat.le_refl _⟩,⟨by (with_reducible repeat (first|apply Kd.R_alloc|apply Kd.R_drewN|apply Kd.R_drew));exact HO504.out⟩,⟨by (with_reducible repeat first|apply b1_|apply b2_|apply b3_);exact BK506.out⟩,⟨puM HB.out GE506.out⟩⟩
   ·rw [if_neg c12] at H
    have c12b0 : (t507 == t508) = false:=beq_eq_false_iff_ne.mpr c12
    have c12b1 : (t507 != t508) = true:=bne_iff_ne.mpr c12
    (first|rw [c12b0]|(simp only [i64_w,i32_w];rw [c12b0])|skip)
    have H':=m_ H
    clear H
    have hcz29_0 : w10.cell? ⟨gb506,0,none⟩ = some (.string t501):=(c_ BK506.out 0).trans rfl
    have hcz29_1 : w10.cell? ⟨gb506,1,none⟩ = some (.slice Ao9 t502.length co9):=(c_ BK506.out 1).trans rfl
    have hfz29_0:=f_ BK506.out 0
    have hfz29_1:=f_ BK506.out 1
    go_wp2_with (first|((with_reducible refine gate_callee (f:=10) rfl ?_);refine goesL_ (some 21) rfl rfl Tryz.func10 (by kernel_rfl) rfl #[.agg #[.string t501,.slice Ao9 t502.length co9],.int .i64 t505] rfl lens ?_;(with_reducible refine (spec_StreamFor.calls k t501 _ _ t502 t505 t508 _ ?side1 ?side2 A11.out).mono ?_);(case side1=>exact puC (Kd.R_reads' HO504.out).2.2);(case side2=>exact (Kd.R_reads' HO504.out).2.1);rintro e w30 ⟨rfl,hb⟩;refine ⟨_,rfl,?_⟩;have n0_:=m_ (Kd.R_below (puR HO504.out) hb);have n1_:=m_ (blk_below (g:=gb506) (o:=.cells #[.string t501,.slice Ao9 t502.length co9] 25 (0,0)) (puB BK506.out) hb);have n2_:=m_ (l5_ (puM HB.out GE506.out) hb);revert n0_ n1_ n2_;clear HO504 BK506 HB;intro HO504 BK506 HB;(try clear hb);(try clear hb2);(try clear hk);(try clear hi)))
    go_meet
    case rel=>exact ⟨_,(true),(by first|rfl|(simp;done)|(simp [*];done)),H',⟨by first|omega|exact Nat.le_refl _⟩,⟨by (with_reducible repeat (first|apply Kd.R_alloc|apply Kd.R_drewN|apply Kd.R_drew));exact HO504.out⟩,⟨by (with_reducible repeat first|apply b1_|apply b2_|apply b3_);exact BK506.out⟩,⟨puM HB.out GE506.out⟩⟩
  case rest =>
   clear HC5
   try clear c1
   try clear c2
   try clear c2b0
   try clear c2b1
   try clear p2
   try clear c4
   try clear c8
   try clear c9
   try clear c10
   try clear c12
   try clear c12b0
   try clear c12b1
   try clear c14
   try clear c15
   try clear c15b0
   try clear hcz16_0
   try clear hcz16_1
   try clear hcz18_0
   try clear hcz18_1
   try clear hcz20_0
   try clear hcz20_1
   try clear hcz22_0
   try clear hcz22_1
   try clear hcz24_0
   try clear hcz24_1
   try clear hcz25_0
   try clear hcz25_1
   try clear hcz27_0
   try clear hcz27_1
   try clear hcz29_0
   try clear hcz29_1
   try clear hcz8_0
   try clear hcz8_1
   try clear hfz16_0
   try clear hfz16_1
   try clear hfz18_0
   try clear hfz18_1
   try clear hfz20_0
   try clear hfz20_1
   try clear hfz22_0
   try clear hfz22_1
   try clear hfz24_0
   try clear hfz24_1
   try clear hfz25_0
   try clear hfz25_1
   try clear hfz27_0
   try clear hfz27_1
   try clear hfz29_0
   try clear hfz29_1
   try clear hfz8_0
   try clear hfz8_1
   obtain ⟨kq,x38_4,rfl,HA,HJ4,HO_507001,BK506,HB⟩:=hcut
   cases kq with
   | zero => exact absurd HA.out (by simp [laws_FnStreamBoth.j0])
   | succ kj4 =>
    have H:=HA.out
    clear HA
    simp only [laws_FnStreamBoth.j0] at H
    by_cases c31 : x38_4 = true
    ·subst c31
     replace H:=ifp H rfl
     replace H:=Option.bind_eq_some_iff.mp H
     obtain ⟨t510,A320,H⟩:=H
     have A32:=m_ A320
     clear A320
     obtain rfl:=Option.some.inj H
     have hcz33_0 : wc.cell? ⟨gb506,0,none⟩ = some (.string t501):=(c_ BK506.out 0).trans rfl
     have hcz33_1 : wc.cell? ⟨gb506,1,none⟩ = some (.slice Ao9 t502.length co9):=(c_ BK506.out 1).trans rfl
     have hfz33_0:=f_ BK506.out 0
     have hfz33_1:=f_ BK506.out 1
     go_wp2_with (first|((with_reducible refine gate_callee (f:=10) rfl ?_);refine goesL_ (some 42) rfl rfl Tryz.func10 (by kernel_rfl) rfl #[.agg #[.string t501,.slice Ao9 t502.length co9],.int .i64 t505] rfl lens ?_;(with_reducible refine (spec_StreamFor.calls kj4 t501 _ _ t502 t505 t510 _ ?side1 ?side2 A32.out).mono ?_);(case side1=>exact puC (Kd.R_reads' HO_507001.out).2.2);(case side2=>exact (Kd.R_reads' HO_507001.out).2.1);rintro e w34 ⟨rfl,hb⟩;refine ⟨_,rfl,?_⟩;have n0_:=m_ (Kd.R_below (puR HO_507001.out) hb);have n1_:=m_ (blk_below (g:=gb506) (o:=.cells #[.string t501,.slice Ao9 t502.length co9] 25 (0,0)) (puB BK506.out) hb);have n2_:=m_ (l5_ (puM HB.out GE506.out) hb);revert n0_ n1_ n2_;clear HO_507001 BK506 HB;intro HO_507001 BK506 HB;(try clear hb);(try clear hb2);(try clear hk);(try clear hi)))
     go_ret
     exact ⟨eqs,puM HB.out GE506.out⟩
    ·replace c31:=Bool.eq_false_iff.mpr c31
     subst c31
     replace H:=ifn H
     replace H:=Option.bind_eq_some_iff.mp H
     obtain ⟨t511,A350,H⟩:=H
     have A35:=m_ A350
     clear A350
     by_cases c36 : t511 ≤ t505
     ·rw [if_pos c36] at H
      have c36b0 : decide (t511 ≤ t505) = true:=decide_eq_true c36
      clear c36
      by_cases c37 : (wrap64 (t505 - t511)) ≤ 5
      ·rw [if_pos c37] at H
       have c37b0 : decide ((wrap64 (t505 - t511)) ≤ 5) = true:=decide_eq_true c37
       clear c37
       replace H:=Option.bind_eq_some_iff.mp H
       obtain ⟨t512,A380,H⟩:=H
       have A38:=m_ A380
       clear A380
       by_cases c39 : t512 = t507
       ·rw [if_pos c39] at H
        have c39b0 : (t512 == t507) = true:=beq_iff_eq.mpr c39
        have c39b1 : (t512 != t507) = false:=bne_eq_false_iff_eq.mpr c39
        clear c39
        replace H:=Option.bind_eq_some_iff.mp H
        obtain ⟨t513,A400,H⟩:=H
        have A40:=m_ A400
        clear A400
        replace H:=Option.bind_eq_some_iff.mp H
        obtain ⟨t514,A410,H⟩:=H
        have A41:=m_ A410
        clear A410
        obtain rfl:=Option.some.inj H
        have hcz42_0 : wc.cell? ⟨gb506,0,none⟩ = some (.string t501):=(c_ BK506.out 0).trans rfl
        have hcz42_1 : wc.cell? ⟨gb506,1,none⟩ = some (.slice Ao9 t502.length co9):=(c_ BK506.out 1).trans rfl
        have hfz42_0:=f_ BK506.out 0
        have hfz42_1:=f_ BK506.out 1
        try go_wp2_with (first|((with_reducible refine gate_callee (f:=12) rfl ?_);refine goesL_ (some 46) rfl rfl Tryz.func12 (by kernel_rfl) rfl #[.agg #[.string t501,.slice Ao9 t502.length co9],.int .i64 t507] rfl lens ?_;(with_reducible refine (impl_StreamBack.calls kj4 t501 _ _ t502 t507 t511 _ ?side1 ?side2 ?side3 A35.out).mono ?_);(case side1=>exact puC (Kd.R_reads' HO_507001.out).2.2);(case side2=>exact (Kd.R_reads' HO_507001.out).2.1);(case side3=>first|(with_reducible exact HG.out)|exact GV_below HG.out (puM HB.out GE506.out));rintro e w43 ⟨rfl,hb⟩;refine ⟨_,rfl,?_⟩;have n0_:=m_ (Kd.R_below (puR HO_507001.out) hb);have n1_:=m_ (blk_below (g:=gb506) (o:=.cells #[.string t501,.slice Ao9 t502.length co9] 25 (0,0)) (puB BK506.out) hb);have n2_:=m_ (l5_ (puM HB.out GE506.out) hb);revert n0_ n1_ n2_;clear HO_507001 BK506 HB;intro HO_507001 BK506 HB;(try clear hb);(try clear hb2);(try clear hk);(try clear hi)))
        have n0_:=m_ (Kd.R_drew HO_507001.out)
        have n1_:=m_ (b2_ BK506.out)
        have n2_:=m_ (l3_ HB.out)
        clear HO_507001
        clear BK506
        clear HB
        have HO_507001:=n0_
        have BK506:=n1_
        have HB:=n2_
        clear n0_ n1_ n2_
        refine start_ (n:=26) (S:=fun w'=>w'.cell? ⟨gb506,0,none⟩ = some (.string t501) ∧ w'.cell? ⟨gb506,1,none⟩ = some (.slice Ao9 t502.length co9)) (ds:=[]) #[false,false,false,false,false,false,false,false,false,false,false,false,false,false,false,false,false,false,false,false,false,false,false,false,false,false] (by kernel_rfl) rfl rfl ⟨(c_ BK506.out 0).trans rfl,(c_ BK506.out 1).trans rfl⟩ (fun hHeld=>?_);refine with_tabW laws_FnStreamBoth.tab8 laws_FnStreamBoth.bits8 (fun HT_ HW_=>?_)
        generalize w43.drew = w44 at HO_507001 BK506 HB hHeld ⊢
        refine pureA 0 (some 47) HT_.out ?_
        refine pureA 1 (some 48) HT_.out ?_
        refine pureA 2 (some 49) HT_.out ?_
        refine pureA 3 (some 50) HT_.out ?_
        refine pureA 4 (some 51) HT_.out ?_
        refine pureA 5 (some 52) HT_.out ?_
        refine pureA 6 (some 53) HT_.out ?_
        refine pureA 7 (some 54) HT_.out ?_
        refine pureA 8 (some 55) HT_.out ?_
        refine pureA 9 (some 56) HT_.out ?_
        refine pureA 11 (some 58) HT_.out ?_
        refine pureA 13 (some 60) HT_.out ?_
        refine takeA 10 (some 57) rfl rfl HT_.out HW_.out hHeld ?_ (by rintro w' ⟨s0,s1⟩;go_simp;with_reducible rfl)
        refine one_ (i:=12) (N:=some 59) #[true,true,true,true,true,true,true,true,true,true,true,true,true,true,false,false,false,false,false,false,false,false,false,false,false,false] rfl rfl (one_of HT_.out (by kernel_rfl)) (by decide) (fun K hK=>?_)
        refine goes_ Tryz.func9 (by kernel_rfl) rfl #[.agg #[.string t501,.slice Ao9 t502.length co9],.int .i64 t511] (by rfl) rfl rfl lens ?_
        with_reducible refine (impl_StreamFor.calls kj4 t501 _ _ t502 t511 t512 _ ?side1 ?side2 ?side3 A38.out).mono ?_
        (case side1=>exact puC (Kd.R_reads' HO_507001.out).2.2)
        (case side2=>exact (Kd.R_reads' HO_507001.out).2.1)
        (case side3=>first|(with_reducible exact HG.out)|exact GV_below HG.out (puM HB.out GE506.out))
        rintro e w45 ⟨rfl,hb⟩
        refine ⟨_,rfl,?_⟩
        have n0_:=m_ (Kd.R_below (puR HO_507001.out) hb)
        have n1_:=m_ (blk_below (g:=gb506) (o:=.cells #[.string t501,.slice Ao9 t502.length co9] 25 (0,0)) (puB BK506.out) hb)
        have n2_:=m_ (l5_ (puM HB.out GE506.out) hb)
        clear HO_507001
        clear BK506
        clear HB
        have HO_507001:=n0_
        have BK506:=n1_
        have HB:=n2_
        clear n0_ n1_ n2_
        (try clear hb)
        (try clear hb2)
        (try clear hk)
        (try clear hi)
        refine hK.out _ _ ⟨(c_ BK506.out 0).trans rfl,(c_ BK506.out 1).trans rfl⟩ (fun hHeld=>?_)
        clear hK K
        refine norm_ (a':=?_) ?_ ?_
        rotate_left
        ·show Act.put _ (some 59) _ = _
         simp only [Act.put,s1_,s2_,s3_,i64_w,i32_w]
         rfl
        refine pureA 14 (some 61) HT_.out ?_
        refine pureA 15 (some 62) HT_.out ?_
        refine pureA 16 (some 63) HT_.out ?_
        refine pureA 19 (some 66) HT_.out ?_
        refine pureA 22 (some 69) HT_.out ?_
        refine takeA 17 (some 64) rfl rfl HT_.out HW_.out hHeld ?_ (by rintro w' ⟨s0,s1⟩;go_simp;with_reducible rfl)
        refine takeA 18 (some 65) rfl rfl HT_.out HW_.out hHeld ?_ (by rintro w' ⟨s0,s1⟩;go_simp;with_reducible rfl)
        refine one_ (i:=20) (N:=some 67) #[true,true,true,true,true,true,true,true,true,true,true,true,true,true,true,true,true,true,true,true,true,false,true,false,false,false] rfl rfl (one_of HT_.out (by kernel_rfl)) (by decide) (fun K hK=>?_)
        refine goes_ Tryz.func9 (by kernel_rfl) rfl #[.agg #[.string t501,.slice Ao9 t502.length co9],.int .i64 t511] (by rfl) rfl rfl lens ?_
        with_reducible refine (impl_StreamFor.calls kj4 t501 _ _ t502 t511 t513 _ ?side1 ?side2 ?side3 A40.out).mono ?_
        (case side1=>exact puC (Kd.R_reads' HO_507001.out).2.2)
        (case side2=>exact (Kd.R_reads' HO_507001.out).2.1)
        (case side3=>first|(with_reducible exact HG.out)|exact GV_below HG.out (puM HB.out GE506.out))
        rintro e w46 ⟨rfl,hb⟩
        refine ⟨_,rfl,?_⟩
        have n0_:=m_ (Kd.R_below (puR HO_507001.out) hb)
        have n1_:=m_ (blk_below (g:=gb506) (o:=.cells #[.string t501,.slice Ao9 t502.length co9] 25 (0,0)) (puB BK506.out) hb)
        have n2_:=m_ (l5_ (puM HB.out GE506.out) hb)
        clear HO_507001
        clear BK506
        clear HB
        have HO_507001:=n0_
        have BK506:=n1_
        have HB:=n2_
        clear n0_ n1_ n2_
        (try clear hb)
        (try clear hb2)
        (try clear hk)
        (try clear hi)
        refine hK.out _ _ ⟨(c_ BK506.out 0).trans rfl,(c_ BK506.out 1).trans rfl⟩ (fun hHeld=>?_)
        clear hK K
        refine norm_ (a':=?_) ?_ ?_
        rotate_left
        ·show Act.put _ (some 67) _ = _
         simp only [Act.put,s1_,s2_,s3_,i64_w,i32_w]
         rfl
        refine one_ (i:=21) (N:=some 68) #[true,true,true,true,true,true,true,true,true,true,true,true,true,true,true,true,true,true,true,true,true,true,true,false,false,false] rfl rfl (one_of HT_.out (by kernel_rfl)) (by decide) (fun K hK=>?_)
        refine goes_ Tryz.func12 (by kernel_rfl) rfl #[.agg #[.string t501,.slice Ao9 t502.length co9],.int .i64 t513] (by rfl) rfl rfl lens ?_
        with_reducible refine (impl_StreamBack.calls kj4 t501 _ _ t502 t513 t514 _ ?side1 ?side2 ?side3 A41.out).mono ?_
        (case side1=>exact puC (Kd.R_reads' HO_507001.out).2.2)
        (case side2=>exact (Kd.R_reads' HO_507001.out).2.1)
        (case side3=>first|(with_reducible exact HG.out)|exact GV_below HG.out (puM HB.out GE506.out))
        rintro e w47 ⟨rfl,hb⟩
        refine ⟨_,rfl,?_⟩
        have n0_:=m_ (Kd.R_below (puR HO_507001.out) hb)
        have n1_:=m_ (blk_below (g:=gb506) (o:=.cells #[.string t501,.slice Ao9 t502.length co9] 25 (0,0)) (puB BK506.out) hb)
        have n2_:=m_ (l5_ (puM HB.out GE506.out) hb)
        clear HO_507001
        clear BK506
        clear HB
        have HO_507001:=n0_
        have BK506:=n1_
        have HB:=n2_
        clear n0_ n1_ n2_
        (try clear hb)
        (try clear hb2)
        (try clear hk)
        (try clear hi)
        refine hK.out _ _ ⟨(c_ BK506.out 0).trans rfl,(c_ BK506.out 1).trans rfl⟩ (fun hHeld=>?_)
        clear hK K
        refine norm_ (a':=?_) ?_ ?_
        rotate_left
        ·show Act.put _ (some 68) _ = _
         simp only [Act.put,s1_,s2_,s3_,i64_w,i32_w]
         rfl
        refine pureA 23 (some 70) HT_.out ?_
        refine pureA 24 (some 71) HT_.out ?_
        refine pureA 25 (some 2) HT_.out ?_
        refine done_ (done_of HT_.out (by kernel_rfl)) ?_
        try go_wp2
        go_ret
        exact ⟨eqs,puM HB.out GE506.out⟩
       ·rw [if_neg c39] at H
        have c39b0 : (t512 == t507) = false:=beq_eq_false_iff_ne.mpr c39
        have c39b1 : (t512 != t507) = true:=bne_iff_ne.mpr c39
        obtain rfl:=Option.some.inj H
        have hcz48_0 : wc.cell? ⟨gb506,0,none⟩ = some (.string t501):=(c_ BK506.out 0).trans rfl
        have hcz48_1 : wc.cell? ⟨gb506,1,none⟩ = some (.slice Ao9 t502.length co9):=(c_ BK506.out 1).trans rfl
        have hfz48_0:=f_ BK506.out 0
        have hfz48_1:=f_ BK506.out 1
        try go_wp2_with (first|((with_reducible refine gate_callee (f:=12) rfl ?_);refine goesL_ (some 46) rfl rfl Tryz.func12 (by kernel_rfl) rfl #[.agg #[.string t501,.slice Ao9 t502.length co9],.int .i64 t507] rfl lens ?_;(with_reducible refine (impl_StreamBack.calls kj4 t501 _ _ t502 t507 t511 _ ?side1 ?side2 ?side3 A35.out).mono ?_);(case side1=>exact puC (Kd.R_reads' HO_507001.out).2.2);(case side2=>exact (Kd.R_reads' HO_507001.out).2.1);(case side3=>first|(with_reducible exact HG.out)|exact GV_below HG.out (puM HB.out GE506.out));rintro e w49 ⟨rfl,hb⟩;refine ⟨_,rfl,?_⟩;have n0_:=m_ (Kd.R_below (puR HO_507001.out) hb);have n1_:=m_ (blk_below (g:=gb506) (o:=.cells #[.string t501,.slice Ao9 t502.length co9] 25 (0,0)) (puB BK506.out) hb);have n2_:=m_ (l5_ (puM HB.out GE506.out) hb);revert n0_ n1_ n2_;clear HO_507001 BK506 HB;intro HO_507001 BK506 HB;(try clear hb);(try clear hb2);(try clear hk);(try clear hi)))
        have n0_:=m_ (Kd.R_drew HO_507001.out)
        have n1_:=m_ (b2_ BK506.out)
        have n2_:=m_ (l3_ HB.out)
        clear HO_507001
        clear BK506
        clear HB
        have HO_507001:=n0_
        have BK506:=n1_
        have HB:=n2_
        clear n0_ n1_ n2_
        refine start_ (n:=26) (S:=fun w'=>w'.cell? ⟨gb506,0,none⟩ = some (.string t501) ∧ w'.cell? ⟨gb506,1,none⟩ = some (.slice Ao9 t502.length co9)) (ds:=[]) #[false,false,false,false,false,false,false,false,false,false,false,false,false,false,false,false,false,false,false,false,false,false,false,false,false,false] (by kernel_rfl) rfl rfl ⟨(c_ BK506.out 0).trans rfl,(c_ BK506.out 1).trans rfl⟩ (fun hHeld=>?_);refine with_tabW laws_FnStreamBoth.tab8 laws_FnStreamBoth.bits8 (fun HT_ HW_=>?_)
        generalize w49.drew = w50 at HO_507001 BK506 HB hHeld ⊢
        refine pureA 0 (some 47) HT_.out ?_
        refine pureA 1 (some 48) HT_.out ?_
        refine pureA 2 (some 49) HT_.out ?_
        refine pureA 3 (some 50) HT_.out ?_
        refine pureA 4 (some 51) HT_.out ?_
        refine pureA 5 (some 52) HT_.out ?_
        refine pureA 6 (some 53) HT_.out ?_
        refine pureA 7 (some 54) HT_.out ?_
        refine pureA 8 (some 55) HT_.out ?_
        refine pureA 9 (some 56) HT_.out ?_
        refine pureA 11 (some 58) HT_.out ?_
        refine pureA 13 (some 60) HT_.out ?_
        refine takeA 10 (some 57) rfl rfl HT_.out HW_.out hHeld ?_ (by rintro w' ⟨s0,s1⟩;go_simp;with_reducible rfl)
        refine one_ (i:=12) (N:=some 59) #[true,true,true,true,true,true,true,true,true,true,true,true,true,true,false,false,false,false,false,false,false,false,false,false,false,false] rfl rfl (one_of HT_.out (by kernel_rfl)) (by decide) (fun K hK=>?_)
        refine goes_ Tryz.func9 (by kernel_rfl) rfl #[.agg #[.string t501,.slice Ao9 t502.length co9],.int .i64 t511] (by rfl) rfl rfl lens ?_
        with_reducible refine (impl_StreamFor.calls kj4 t501 _ _ t502 t511 t512 _ ?side1 ?side2 ?side3 A38.out).mono ?_
        (case side1=>exact puC (Kd.R_reads' HO_507001.out).2.2)
        (case side2=>exact (Kd.R_reads' HO_507001.out).2.1)
        (case side3=>first|(with_reducible exact HG.out)|exact GV_below HG.out (puM HB.out GE506.out))
        rintro e w51 ⟨rfl,hb⟩
        refine ⟨_,rfl,?_⟩
        have n0_:=m_ (Kd.R_below (puR HO_507001.out) hb)
        have n1_:=m_ (blk_below (g:=gb506) (o:=.cells #[.string t501,.slice Ao9 t502.length co9] 25 (0,0)) (puB BK506.out) hb)
        have n2_:=m_ (l5_ (puM HB.out GE506.out) hb)
        clear HO_507001
        clear BK506
        clear HB
        have HO_507001:=n0_
        have BK506:=n1_
        have HB:=n2_
        clear n0_ n1_ n2_
        (try clear hb)
        (try clear hb2)
        (try clear hk)
        (try clear hi)
        refine hK.out _ _ ⟨(c_ BK506.out 0).trans rfl,(c_ BK506.out 1).trans rfl⟩ (fun hHeld=>?_)
        clear hK K
        refine norm_ (a':=?_) ?_ ?_
        rotate_left
        ·show Act.put _ (some 59) _ = _
         simp only [Act.put,s1_,s2_,s3_,i64_w,i32_w]
         rfl
        refine pureA 14 (some 61) HT_.out ?_
        refine pureA 15 (some 62) HT_.out ?_
        refine pureA 16 (some 63) HT_.out ?_
        refine pureU 17 (some 64) HT_.out ?_
        refine pureU 18 (some 65) HT_.out ?_
        refine pureU 19 (some 66) HT_.out ?_
        refine pureU 20 (some 67) HT_.out ?_
        refine pureU 21 (some 68) HT_.out ?_
        refine pureU 22 (some 69) HT_.out ?_
        refine pureU 23 (some 70) HT_.out ?_
        refine pureA 24 (some 71) HT_.out ?_
        refine pureA 25 (some 2) HT_.out ?_
        refine done_ (done_of HT_.out (by kernel_rfl)) ?_
        try go_wp2
        go_ret
        exact ⟨eqs,puM HB.out GE506.out⟩
      ·rw [if_neg c37] at H
       have c37b0 : decide ((wrap64 (t505 - t511)) ≤ 5) = false:=decide_eq_false c37
       clear c37
       obtain rfl:=Option.some.inj H
       have hcz52_0 : wc.cell? ⟨gb506,0,none⟩ = some (.string t501):=(c_ BK506.out 0).trans rfl
       have hcz52_1 : wc.cell? ⟨gb506,1,none⟩ = some (.slice Ao9 t502.length co9):=(c_ BK506.out 1).trans rfl
       have hfz52_0:=f_ BK506.out 0
       have hfz52_1:=f_ BK506.out 1
       try go_wp2_with (first|((with_reducible refine gate_callee (f:=12) rfl ?_);refine goesL_ (some 46) rfl rfl Tryz.func12 (by kernel_rfl) rfl #[.agg #[.string t501,.slice Ao9 t502.length co9],.int .i64 t507] rfl lens ?_;(with_reducible refine (impl_StreamBack.calls kj4 t501 _ _ t502 t507 t511 _ ?side1 ?side2 ?side3 A35.out).mono ?_);(case side1=>exact puC (Kd.R_reads' HO_507001.out).2.2);(case side2=>exact (Kd.R_reads' HO_507001.out).2.1);(case side3=>first|(with_reducible exact HG.out)|exact GV_below HG.out (puM HB.out GE506.out));rintro e w53 ⟨rfl,hb⟩;refine ⟨_,rfl,?_⟩;have n0_:=m_ (Kd.R_below (puR HO_507001.out) hb);have n1_:=m_ (blk_below (g:=gb506) (o:=.cells #[.string t501,.slice Ao9 t502.length co9] 25 (0,0)) (puB BK506.out) hb);have n2_:=m_ (l5_ (puM HB.out GE506.out) hb);revert n0_ n1_ n2_;clear HO_507001 BK506 HB;intro HO_507001 BK506 HB;(try clear hb);(try clear hb2);(try clear hk);(try clear hi)))
       have n0_:=m_ (Kd.R_drew HO_507001.out)
       have n1_:=m_ (b2_ BK506.out)
       have n2_:=m_ (l3_ HB.out)
       clear HO_507001
       clear BK506
       clear HB
       have HO_507001:=n0_
       have BK506:=n1_
       have HB:=n2_
       clear n0_ n1_ n2_
       refine start_ (n:=26) (S:=fun w'=>True) (ds:=[]) #[false,false,false,false,false,false,false,false,false,false,false,false,false,false,false,false,false,false,false,false,false,false,false,false,false,false] (by kernel_rfl) rfl rfl trivial (fun hHeld=>?_);refine with_tabW laws_FnStreamBoth.tab8 laws_FnStreamBoth.bits8 (fun HT_ HW_=>?_)
       generalize w53.drew = w54 at HO_507001 BK506 HB hHeld ⊢
       refine pureA 0 (some 47) HT_.out ?_
       refine pureA 1 (some 48) HT_.out ?_
       refine pureA 2 (some 49) HT_.out ?_
       refine pureA 3 (some 50) HT_.out ?_
       refine pureA 4 (some 51) HT_.out ?_
       refine pureA 5 (some 52) HT_.out ?_
       refine pureA 6 (some 53) HT_.out ?_
       refine pureA 7 (some 54) HT_.out ?_
       refine pureA 8 (some 55) HT_.out ?_
       refine pureA 9 (some 56) HT_.out ?_
       refine pureU 10 (some 57) HT_.out ?_
       refine pureU 11 (some 58) HT_.out ?_
       refine pureU 12 (some 59) HT_.out ?_
       refine pureU 13 (some 60) HT_.out ?_
       refine pureU 14 (some 61) HT_.out ?_
       refine pureA 15 (some 62) HT_.out ?_
       refine pureA 16 (some 63) HT_.out ?_
       refine pureU 17 (some 64) HT_.out ?_
       refine pureU 18 (some 65) HT_.out ?_
       refine pureU 19 (some 66) HT_.out ?_
       refine pureU 20 (some 67) HT_.out ?_
       refine pureU 21 (some 68) HT_.out ?_
       refine pureU 22 (some 69) HT_.out ?_
       refine pureU 23 (some 70) HT_.out ?_
       refine pureA 24 (some 71) HT_.out ?_
       refine pureA 25 (some 2) HT_.out ?_
       refine done_ (done_of HT_.out (by kernel_rfl)) ?_
       try go_wp2
       go_ret
       exact ⟨eqs,puM HB.out GE506.out⟩
     ·rw [if_neg c36] at H
      have c36b0 : decide (t511 ≤ t505) = false:=decide_eq_false c36
      clear c36
      obtain rfl:=Option.some.inj H
      have hcz55_0 : wc.cell? ⟨gb506,0,none⟩ = some (.string t501):=(c_ BK506.out 0).trans rfl
      have hcz55_1 : wc.cell? ⟨gb506,1,none⟩ = some (.slice Ao9 t502.length co9):=(c_ BK506.out 1).trans rfl
      have hfz55_0:=f_ BK506.out 0
      have hfz55_1:=f_ BK506.out 1
      try go_wp2_with (first|((with_reducible refine gate_callee (f:=12) rfl ?_);refine goesL_ (some 46) rfl rfl Tryz.func12 (by kernel_rfl) rfl #[.agg #[.string t501,.slice Ao9 t502.length co9],.int .i64 t507] rfl lens ?_;(with_reducible refine (impl_StreamBack.calls kj4 t501 _ _ t502 t507 t511 _ ?side1 ?side2 ?side3 A35.out).mono ?_);(case side1=>exact puC (Kd.R_reads' HO_507001.out).2.2);(case side2=>exact (Kd.R_reads' HO_507001.out).2.1);(case side3=>first|(with_reducible exact HG.out)|exact GV_below HG.out (puM HB.out GE506.out));rintro e w56 ⟨rfl,hb⟩;refine ⟨_,rfl,?_⟩;have n0_:=m_ (Kd.R_below (puR HO_507001.out) hb);have n1_:=m_ (blk_below (g:=gb506) (o:=.cells #[.string t501,.slice Ao9 t502.length co9] 25 (0,0)) (puB BK506.out) hb);have n2_:=m_ (l5_ (puM HB.out GE506.out) hb);revert n0_ n1_ n2_;clear HO_507001 BK506 HB;intro HO_507001 BK506 HB;(try clear hb);(try clear hb2);(try clear hk);(try clear hi)))
      have n0_:=m_ (Kd.R_drew HO_507001.out)
      have n1_:=m_ (b2_ BK506.out)
      have n2_:=m_ (l3_ HB.out)
      clear HO_507001
      clear BK506
      clear HB
      have HO_507001:=n0_
      have BK506:=n1_
      have HB:=n2_
      clear n0_ n1_ n2_
      refine start_ (n:=26) (S:=fun w'=>True) (ds:=[]) #[false,false,false,false,false,false,false,false,false,false,false,false,false,false,false,false,false,false,false,false,false,false,false,false,false,false] (by kernel_rfl) rfl rfl trivial (fun hHeld=>?_);refine with_tabW laws_FnStreamBoth.tab8 laws_FnStreamBoth.bits8 (fun HT_ HW_=>?_)
      generalize w56.drew = w57 at HO_507001 BK506 HB hHeld ⊢
      refine pureA 0 (some 47) HT_.out ?_
      refine pureA 1 (some 48) HT_.out ?_
      refine pureA 2 (some 49) HT_.out ?_
      refine pureA 3 (some 50) HT_.out ?_
      refine pureU 4 (some 51) HT_.out ?_
      refine pureU 5 (some 52) HT_.out ?_
      refine pureU 6 (some 53) HT_.out ?_
      refine pureU 7 (some 54) HT_.out ?_
      refine pureA 8 (some 55) HT_.out ?_
      refine pureA 9 (some 56) HT_.out ?_
      refine pureU 10 (some 57) HT_.out ?_
      refine pureU 11 (some 58) HT_.out ?_
      refine pureU 12 (some 59) HT_.out ?_
      refine pureU 13 (some 60) HT_.out ?_
      refine pureU 14 (some 61) HT_.out ?_
      refine pureA 15 (some 62) HT_.out ?_
      refine pureA 16 (some 63) HT_.out ?_
      refine pureU 17 (some 64) HT_.out ?_
      refine pureU 18 (some 65) HT_.out ?_
      refine pureU 19 (some 66) HT_.out ?_
      refine pureU 20 (some 67) HT_.out ?_
      refine pureU 21 (some 68) HT_.out ?_
      refine pureU 22 (some 69) HT_.out ?_
      refine pureU 23 (some 70) HT_.out ?_
      refine pureA 24 (some 71) HT_.out ?_
      refine pureA 25 (some 2) HT_.out ?_
      refine done_ (done_of HT_.out (by kernel_rfl)) ?_
      try go_wp2
      go_ret
      exact ⟨eqs,puM HB.out GE506.out⟩

/-- THE ONE PURE STATEMENT of laws_FnStreamBoth: yours. -/
def laws_FnStreamBoth.Pure : Prop := ∀ (l0 : List Int), l0.length ≤ maxLen → l0.length * 1 ≤ 140737488351232 → (∀ x ∈ l0, (Lit.int .u8 x).wf = true) → ∃ k, laws_FnStreamBoth.f k l0 = some true
theorem laws_FnStreamBoth.walk (P : laws_FnStreamBoth.Pure) (a0 : Option Addr) (len0 cap0 : Nat) (z0 : List Int) (w : World) (hG : GV w) (w0 : (a0 = none ∧ len0 = 0 ∧ cap0 = 0 ∧ z0 = []) ∨ ∃ x, a0 = some x ∧ len0 ≤ cap0 ∧ cap0 ≤ maxLen ∧ z0.length = cap0 ∧ (∀ i, i < z0.length → w.cell? (x.add i) = some (.int .u8 (z0.getD i 0))) ∧ ∀ n ∈ z0, (Lit.int .u8 n).wf = true) (y0 : len0 * 1 ≤ 140737488351232) :
  Calls Tryz.prog 4 #[.slice a0 len0 cap0] w fun e w'=>e = .returned (.bool true) ∧ Below w.heap.size w w':=by
 obtain ⟨l0,rfl,hr0,hm0,hw0,hc0⟩:=ReadsInt.ofRowC w0
 obtain ⟨k,h⟩:=P l0 hm0 y0 hw0
 refine (laws_FnStreamBoth.calls k _ _ l0 true w (Kd.C_of_reads (d:=(0 : Int)) (h1:=fun _=>rfl) hr0) hc0 hG h).mono ?_
 rintro e w' ⟨rfl,hd⟩
 exact ⟨rfl,hd⟩

end Go.Proofs.YtkcjmmhleepjeaaGreatDoor.A
