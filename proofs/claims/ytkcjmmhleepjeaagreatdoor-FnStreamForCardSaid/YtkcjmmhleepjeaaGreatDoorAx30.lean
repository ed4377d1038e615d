-- Printed by myprint.py (wip/tools) out of the translation. Not trusted: Lean checks it.
import Derived.Test.YtkcjmmhleepjeaaGreatDoorAx0
import Derived.Test.YtkcjmmhleepjeaaGreatDoorAx16
import Derived.Test.YtkcjmmhleepjeaaGreatDoorAx18
import Derived.Test.YtkcjmmhleepjeaaGreatDoorAx19
import Derived.Test.YtkcjmmhleepjeaaGreatDoorAx21
import Derived.Test.YtkcjmmhleepjeaaGreatDoorAx23
namespace Go.Proofs.YtkcjmmhleepjeaaGreatDoor.A
open Go.RowKit Go.Proofs.YtkcjmmhleepjeaaGreatDoorW.PrintWords Go.Proofs.YtkcjmmhleepjeaaGreatDoorW.PrintLast Go.Proofs.YtkcjmmhleepjeaaGreatDoorW.PrintMore
attribute [local go_sem] max2_int min2_int max_two min_two max_three min_three max_four min_four
set_option linter.unusedVariables false
set_option linter.unusedSimpArgs false

/-! ### laws_FnStreamFor: function 7 -/
mutual
def laws_FnStreamFor.j0 : Nat → List Int → List Int → Bool → Option (Bool)
 | 0, _, _, _ => none
 | k + 1, x0, x1, x16 => if x16 = true then (some true) else ((spec_DrawStreamFor.f k x0).bind fun bt612 => ((impl_StreamFor.f k bt612.1 bt612.2.1 bt612.2.2).bind fun t618 => ((spec_StreamFor.f k bt612.1 bt612.2.1 bt612.2.2).bind fun t619 => (if t618 = t619 then ((spec_StreamOk.f k bt612.1 bt612.2.1).bind fun t620 => (if t620 = true then (if bt612.2.2 < 0 then (laws_FnStreamFor.j1 k x1 bt612.2.2 t618 true bt612.1 bt612.2.1) else (laws_FnStreamFor.j1 k x1 bt612.2.2 t618 (decide (bt612.2.2 > (bt612.1.size : Int))) bt612.1 bt612.2.1)) else (laws_FnStreamFor.j1 k x1 bt612.2.2 t618 true bt612.1 bt612.2.1))) else (laws_FnStreamFor.j1 k x1 bt612.2.2 t618 true bt612.1 bt612.2.1)))))
def laws_FnStreamFor.j1 : Nat → List Int → Int → Int → Bool → ByteArray → List (S31) → Option (Bool)
 | 0, _, _, _, _, _, _ => none
 | k + 1, x1, x6, x7, x45, x618000, x618001 => if x45 = true then ((spec_StreamFor.f k x618000 x618001 x6).bind fun t621 => (some (x7 == t621))) else (if (wrap64 (x6 + 1)) = 0 then (none) else ((impl_StreamFor.f k x618000 x618001 0).bind fun t622 => (if t622 = 0 then ((impl_StreamFor.f k x618000 x618001 ((x1.length : Int) % (wrap64 (x6 + 1)))).bind fun t623 => (if t623 ≤ x7 then ((impl_StreamFor.f k x618000 x618001 (x618000.size : Int)).bind fun t624 => ((impl_StreamOut.f k x618000 x618001).bind fun t625 => (if t624 = (t625.size : Int) then ((impl_StreamOut.f k x618000 x618001).bind fun t626 => (if x7 ≤ (t626.size : Int) then ((impl_TextHeld.f k x618000).bind fun t627 => ((impl_StreamFor.f k x618000 x618001 (wrap64 ((x618000.size : Int) - t627))).bind fun t628 => ((impl_StreamOut.f k x618000 x618001).bind fun t629 => (some (t628 == (t629.size : Int)))))) else (some false))) else (some false)))) else (some false))) else (some false))))
end
def laws_FnStreamFor.f (k : Nat) (l0 : List Int) (l1 : List Int) : Option (Bool) := if (l0.length : Int) > 1048576 then (laws_FnStreamFor.j0 k l0 l1 true) else (laws_FnStreamFor.j0 k l0 l1 (decide ((l1.length : Int) > 1048576)))
theorem laws_FnStreamFor.mono_l : ∀ k, (∀ y0 y1 y2, LeO (laws_FnStreamFor.j0 k y0 y1 y2) (laws_FnStreamFor.j0 (k + 1) y0 y1 y2)) ∧ (∀ y0 y1 y2 y3 y4 y5, LeO (laws_FnStreamFor.j1 k y0 y1 y2 y3 y4 y5) (laws_FnStreamFor.j1 (k + 1) y0 y1 y2 y3 y4 y5))
 | 0 => ⟨fun _ _ _ r h => by simp [laws_FnStreamFor.j0] at h, fun _ _ _ _ _ _ r h => by simp [laws_FnStreamFor.j1] at h⟩
 | k + 1 => by
  obtain ⟨ih0,ih1⟩:=laws_FnStreamFor.mono_l k
  refine ⟨?_,?_⟩
  ·intro y0 y1 y2
   unfold laws_FnStreamFor.j0
   exact leo8 ih0 ih1 impl_StreamFor.mono impl_StreamOut.mono impl_TextHeld.mono spec_DrawStreamFor.mono spec_StreamFor.mono spec_StreamOk.mono
  ·intro y0 y1 y2 y3 y4 y5
   unfold laws_FnStreamFor.j1
   exact leo8 ih0 ih1 impl_StreamFor.mono impl_StreamOut.mono impl_TextHeld.mono spec_DrawStreamFor.mono spec_StreamFor.mono spec_StreamOk.mono
theorem laws_FnStreamFor.mono : ∀ a0 a1 k, LeO (laws_FnStreamFor.f k a0 a1) (laws_FnStreamFor.f (k + 1) a0 a1) := by
 intro a0 a1 k
 obtain ⟨ih0,ih1⟩:=laws_FnStreamFor.mono_l k
 unfold laws_FnStreamFor.f
 exact leo8 ih0 ih1 impl_StreamFor.mono impl_StreamOut.mono impl_TextHeld.mono spec_DrawStreamFor.mono spec_StreamFor.mono spec_StreamOk.mono
def laws_FnStreamFor.T8 : Bool × List (List Nat × List Nat) := (true, [([], []), ([0], [0]), ([1], [1]), ([2, 1], [2]), ([3], [3]), ([3], [3]), ([4, 5, 3, 3], [3, 4, 5]), ([3], [3]), ([6, 7, 3], [3, 6, 7]), ([3, 8], [3, 8]), ([9, 6], [9]), ([10], [10]), ([10], [10]), ([12, 10], [10, 12]), ([13, 10], [10, 13]), ([11, 14, 10, 10], [10, 11, 14]), ([10], [10]), ([16, 15, 10], [10, 16]), ([17, 10], [10, 17]), ([15, 18, 10], [10, 15, 18]), ([10, 19], [10, 19]), ([20, 17], [20]), ([21], [21]), ([21], [21]), ([23, 21, 21], [21, 23]), ([24, 21], [21, 24]), ([22, 25, 21], [21, 22, 25]), ([21, 26], [21, 26]), ([27, 24], [27]), ([28], [28]), ([28], [28]), ([30, 28], [28, 30]), ([31, 28], [28, 31]), ([28], [28]), ([33, 28], [28, 33]), ([34, 28, 28], [28, 34]), ([32, 35, 28], [28, 32, 35]), ([29, 36, 35, 28], [28, 29, 36]), ([28], [28]), ([38, 37, 28], [28, 38]), ([39, 28], [28, 39]), ([37, 40, 28], [28, 37, 40]), ([28, 41], [28, 41]), ([42, 39, 0, 1, 2, 3, 4, 5, 6, 7, 8, 9, 10, 11, 12, 13, 14, 15, 16, 17, 18, 19, 20, 21, 22, 23, 24, 25, 26, 27, 28, 29, 30, 31, 32, 33, 34, 35, 36, 37, 38, 39, 40, 41, 42], [42])])
def laws_FnStreamFor.B8 : List Nat := [0, 1, 3, 7, 15, 15, 63, 15, 255, 511, 1023, 2047, 2047, 6143, 14335, 32767, 2047, 131071, 262143, 524287, 1048575, 2097151, 4194303, 4194303, 12582911, 29360127, 67108863, 134217727, 268435455, 536870911, 536870911, 1610612735, 3758096383, 536870911, 9126805503, 26306674687, 68182605823, 137438953471, 536870911, 549755813887, 1099511627775, 2199023255551, 4398046511103, 8796093022207]
theorem laws_FnStreamFor.tab8 : rtab .any (opsOf Tryz.f7 8) = laws_FnStreamFor.T8 := by kernel_rfl
theorem laws_FnStreamFor.bits8 : waitsOk laws_FnStreamFor.T8.2 laws_FnStreamFor.B8 = true := by kernel_rfl
set_option maxHeartbeats 8000000 in
set_option maxRecDepth 100000 in
theorem laws_FnStreamFor.calls (k : Nat) (A0 : Option Addr) (c0 : Nat) (l0 : List Int) (A1 : Option Addr) (c1 : Nat) (l1 : List Int) (r : Bool) (w : World) (hr0 : Kd.C (Kd.int .u8) w A0 l0.length l0) (hc0 : l0.length ≤ c0) (hr1 : Kd.C (Kd.int .u8) w A1 l1.length l1) (hc1 : l1.length ≤ c1) (hG : GV w) (h : laws_FnStreamFor.f k l0 l1 = some r) :
  Calls Tryz.prog 7 #[.slice A0 l0.length c0,.slice A1 l1.length c1] w fun e w'=>e = .returned (.bool r) ∧ Below w.heap.size w w':=by
 have hu25:=Tryz.underlying25
 have HG:=m_ hG
 clear hG
 have HR0:=m_ hr0
 have HC0:=m_ hc0
 clear hr0 hc0
 have HR1:=m_ hr1
 have HC1:=m_ hc1
 clear hr1 hc1
 have HB:=m_ (Below.refl w.heap.size w)
 have H : (if (l0.length : Int) > 1048576 then (laws_FnStreamFor.j0 k l0 l1 true) else (laws_FnStreamFor.j0 k l0 l1 (decide ((l1.length : Int) > 1048576)))) = some r:=h
 clear h
 have HC3:=m_ H
 clear H
 go_enter Tryz.func7,Tryz.ntmps7
 go_upto_region 1 with (fail)
 go_cut [16] (fun v16 wc=>∃ (kq : Nat) (x16_2 : Bool),v16 = .bool x16_2 ∧ Aside0 (laws_FnStreamFor.j0 kq l0 l1 x16_2 = some r) ∧ Aside0 (kq ≤ k) ∧ Aside0 (Below w.heap.size w wc))
 case first =>
  have H:=HC3.out
  clear HC3
  by_cases c4 : (l0.length : Int) > 1048576
  ·rw [if_pos c4] at H
   have c4b0 : decide (1048576 < (l0.length : Int)) = true:=decide_eq_true c4
   have c4b1 : decide (1048576 < l0.length) = true:=decide_eq_true (by omega)
   clear c4
   (first|rw [c4b0]|(simp only [i64_w,i32_w];rw [c4b0])|skip)
   have H':=m_ H
   clear H
   go_wp2
   go_meet
   case rel=>exact ⟨_,(true),(by first|rfl|(simp;done)|(simp [*];done)),H',⟨by first|omega|exact Nat.le_refl _⟩,⟨puL HB.out⟩⟩
  ·rw [if_neg c4] at H
   have c4b0 : decide (1048576 < (l0.length : Int)) = false:=decide_eq_false c4
   have c4b1 : decide (1048576 < l0.length) = false:=decide_eq_false (by omega)
   clear c4
   (first|rw [c4b0]|(simp only [i64_w,i32_w];rw [c4b0])|skip)
   have H':=m_ H
   clear H
   go_wp2
   go_meet
   case rel=>exact ⟨_,(decide ((l1.length : Int) > 1048576)),(by first|rfl|(simp;done)|(simp [*];done)),H',⟨by first|omega|exact Nat.le_refl _⟩,⟨puL HB.out⟩⟩
 case rest =>
  clear HC3
  try clear c1
  try clear p2
  try clear c4
  try clear c4b0
  try clear c4b1
  obtain ⟨kq,x16_2,rfl,HA,HJ2,HB⟩:=hcut
  cases kq with
  | zero => exact absurd HA.out (by simp [laws_FnStreamFor.j0])
  | succ kj2 =>
   have H:=HA.out
   clear HA
   simp only [laws_FnStreamFor.j0] at H
   by_cases c5 : x16_2 = true
   ·subst c5
    replace H:=ifp H rfl
    obtain rfl:=Option.some.inj H
    go_wp2
    go_ret
    exact ⟨eqs,puL HB.out⟩
   ·replace c5:=Bool.eq_false_iff.mpr c5
    subst c5
    replace H:=ifn H
    replace H:=Option.bind_eq_some_iff.mp H
    obtain ⟨⟨t612,t613,t616⟩,A60,H⟩:=H
    replace H : ((impl_StreamFor.f kj2 t612 t613 t616).bind fun t618=>((spec_StreamFor.f kj2 t612 t613 t616).bind fun t619=>(if t618 = t619 then ((spec_StreamOk.f kj2 t612 t613).bind fun t620=>(if t620 = true then (if t616 < 0 then (laws_FnStreamFor.j1 kj2 l1 t616 t618 true t612 t613) else (laws_FnStreamFor.j1 kj2 l1 t616 t618 (decide (t616 > (t612.size : Int))) t612 t613)) else (laws_FnStreamFor.j1 kj2 l1 t616 t618 true t612 t613))) else (laws_FnStreamFor.j1 kj2 l1 t616 t618 true t612 t613)))) = some r:=H
    have A6:=m_ A60
    clear A60
    replace H:=Option.bind_eq_some_iff.mp H
    obtain ⟨t618,A70,H⟩:=H
    have A7:=m_ A70
    clear A70
    have HC8:=m_ H
    clear H
    go_upto_region 5 with (first|((with_reducible refine gate_callee (f:=8) rfl ?_);refine goesL_ (some 19) rfl rfl Tryz.func8 (by kernel_rfl) rfl #[.slice A0 l0.length c0] rfl lens ?_;(with_reducible refine (spec_DrawStreamFor.calls kj2 _ _ l0 t612 t613 t616 _ ?side1 ?side2 A6.out).mono ?_);(case side1=>exact puC (Kd.C_below HR0.out HB.out));(case side2=>exact HC0.out);rintro e w9 ⟨v614,rfl,ho0,hb⟩;refine ⟨_,rfl,?_⟩;have n0_:=m_ (Kd.R_lower ho0 (l6_ (puL HB.out)));have n1_:=m_ (l5_ (puL HB.out) hb);revert n0_ n1_;clear HB;intro HO615 HB;(try clear hb);(try clear hb2);(try clear hk);(try clear hi);(try clear ho0))|((with_reducible refine gate_dst (N:=5) rfl ?_);(try (refine gate_guard (by rfl) ?_;dsimp only));refine box_event ?hg (N:=5) ?hd (cs:=#[.string (⟨#[]⟩ : ByteArray),.slice none 0 0]) (t:=25) ?hr ?_;(case hd=>rfl);(case hg=>rfl);(case hr=>first|(go_simp;done)|(go_simp;rfl));intro gb617 hg w10 hbox hb;have n0_:=m_ (Kd.R_below (puR HO615.out) hb);have n1_:=m_ (l5_ (puL HB.out) hb);have n2_:=m_ (hbox);have n3_:=m_ ((by rw [hg];exact (l6_ (puL HB.out)) : w.heap.size ≤ gb617));have n4_:=m_ ((by rw [hg];exact (l6_ (puL HB.out)) : w.heap.size ≤ gb617));revert n0_ n1_ n2_ n3_ n4_;clear HO615 HB;intro HO615 HB BK617 GW617 GE617;clear hb hbox hg;have hcz11_0 : w10.cell? ⟨gb617,0,none⟩ = some (.string (⟨#[]⟩ : ByteArray)):=(c_ BK617.out 0).trans rfl;have hcz11_1 : w10.cell? ⟨gb617,1,none⟩ = some (.slice none 0 0):=(c_ BK617.out 1).trans rfl;have hfz11_0:=f_ BK617.out 0;have hfz11_1:=f_ BK617.out 1;obtain ⟨Ao12,co12,eo12⟩:=Kd.R_slice HO615.out;subst eo12)|((with_reducible refine gate_callee (f:=9) rfl ?_);refine goesL_ (some 24) rfl rfl Tryz.func9 (by kernel_rfl) rfl #[.agg #[.string t612,.slice Ao12 t613.length co12],.int .i64 t616] rfl lens ?_;(with_reducible refine (impl_StreamFor.calls kj2 t612 _ _ t613 t616 t618 _ ?side1 ?side2 ?side3 A7.out).mono ?_);(case side1=>refine (Kd.R_reads' (e:=31) (base:=w.heap.size) (ok:=fun k_=>True) (n:=t613.length) (c:=co12) ?_).2.2;exact (by (with_reducible repeat (first|apply Kd.R_alloc|apply Kd.R_drewN|apply Kd.R_drew));exact (Kd.R_mono (Kd.R_far (p:=⟨gb617,1,none⟩) (Kd.R_far (p:=⟨gb617,0,none⟩) (Kd.R_types HO615.out BK617.out (by decide)) (fun _ hk=>hk.2) (.string t612)) (fun _ hk=>hk.2) (.slice Ao12 t613.length co12)) (fun _ h_=>h_.1))));(case side2=>exact (Kd.R_reads' HO615.out).2.1);(case side3=>first|(with_reducible exact HG.out)|exact GV_below HG.out (puM HB.out GE617.out));rintro e w13 ⟨rfl,hb⟩;refine ⟨_,rfl,?_⟩;have n0_:=m_ (Kd.R_below (by (with_reducible repeat (first|apply Kd.R_alloc|apply Kd.R_drewN|apply Kd.R_drew));exact (Kd.R_mono (Kd.R_far (p:=⟨gb617,1,none⟩) (Kd.R_far (p:=⟨gb617,0,none⟩) (Kd.R_types HO615.out BK617.out (by decide)) (fun _ hk=>hk.2) (.string t612)) (fun _ hk=>hk.2) (.slice Ao12 t613.length co12)) (fun _ h_=>h_.1))) hb);have n1_:=m_ (blk_below (g:=gb617) (o:=.cells #[.string t612,.slice Ao12 t613.length co12] 25 (0,0)) (by (with_reducible repeat first|apply b1_|apply b2_|apply b3_);refine blk_put (cs:=#[.string t612,.slice none 0 0]) ?_ 1 _ rfl;(with_reducible repeat first|apply b1_|apply b2_|apply b3_);refine blk_put (cs:=#[.string (⟨#[]⟩ : ByteArray),.slice none 0 0]) ?_ 0 _ rfl;(with_reducible repeat first|apply b1_|apply b2_|apply b3_);exact BK617.out) hb);have n2_:=m_ (l5_ (puM HB.out GE617.out) hb);revert n0_ n1_ n2_;clear HO615 BK617 HB;intro HO615 BK617 HB;(try clear hb);(try clear hb2);(try clear hk);(try clear hi)))
    (try simp only [Act.put,s1_,s2_,s3_])
    go_cut [45] (fun v45 wc=>∃ (kq : Nat) (x45_7 : Bool),v45 = .bool x45_7 ∧ Aside0 (laws_FnStreamFor.j1 kq l1 t616 t618 x45_7 t612 t613 = some r) ∧ Aside0 (kq ≤ kj2) ∧ Aside0 (Kd.R k31 31 wc w.heap.size (fun _=>True) (.slice Ao12 t613.length co12) t613) ∧ Aside0 (wc.heap[gb617]? = some (.cells #[.string t612,(.slice Ao12 t613.length co12)] 25 (0,0))) ∧ Aside0 (Below w.heap.size w wc))
    case first =>
     have H:=HC8.out
     clear HC8
     replace H:=Option.bind_eq_some_iff.mp H
     obtain ⟨t619,A140,H⟩:=H
     have A14:=m_ A140
     clear A140
     by_cases c15 : t618 = t619
     ·rw [if_pos c15] at H
      have c15b0 : (t618 == t619) = true:=beq_iff_eq.mpr c15
      have c15b1 : (t618 != t619) = false:=bne_eq_false_iff_eq.mpr c15
      clear c15
      (first|rw [c15b0]|(simp only [i64_w,i32_w];rw [c15b0])|skip)
      replace H:=Option.bind_eq_some_iff.mp H
      obtain ⟨t620,A160,H⟩:=H
      have A16:=m_ A160
      clear A160
      by_cases c17 : t620 = true
      ·subst c17
       replace H:=ifp H rfl
       by_cases c18 : t616 < 0
       ·rw [if_pos c18] at H
        have c18b0 : decide (t616 < 0) = true:=decide_eq_true c18
        clear c18
        have H':=m_ H
        clear H
        have hcz19_0 : w13.cell? ⟨gb617,0,none⟩ = some (.string t612):=(c_ BK617.out 0).trans rfl
        have hcz19_1 : w13.cell? ⟨gb617,1,none⟩ = some (.slice Ao12 t613.length co12):=(c_ BK617.out 1).trans rfl
        have hfz19_0:=f_ BK617.out 0
        have hfz19_1:=f_ BK617.out 1
        go_wp2_with (first|((with_reducible refine gate_callee (f:=10) rfl ?_);refine goesL_ (some 28) rfl rfl Tryz.func10 (by kernel_rfl) rfl #[.agg #[.string t612,.slice Ao12 t613.length co12],.int .i64 t616] rfl lens ?_;(with_reducible refine (spec_StreamFor.calls kj2 t612 _ _ t613 t616 t619 _ ?side1 ?side2 A14.out).mono ?_);(case side1=>exact puC (Kd.R_reads' HO615.out).2.2);(case side2=>exact (Kd.R_reads' HO615.out).2.1);rintro e w20 ⟨rfl,hb⟩;refine ⟨_,rfl,?_⟩;have n0_:=m_ (Kd.R_below (puR HO615.out) hb);have n1_:=m_ (blk_below (g:=gb617) (o:=.cells #[.string t612,.slice Ao12 t613.length co12] 25 (0,0)) (puB BK617.out) hb);have n2_:=m_ (l5_ (puM HB.out GE617.out) hb);revert n0_ n1_ n2_;clear HO615 BK617 HB;intro HO615 BK617 HB;(try clear hb);(try clear hb2);(try clear hk);(try clear hi);have hcz21_0 : w20.cell? ⟨gb617,0,none⟩ = some (.string t612):=(c_ BK617.out 0).trans rfl;have hcz21_1 : w20.cell? ⟨gb617,1,none⟩ = some (.slice Ao12 t613.length co12):=(c_ BK617.out 1).trans rfl;have hfz21_0:=f_ BK617.out 0;have hfz21_1:=f_ BK617.out 1)|(go_at_call 11;(with_reducible refine (spec_StreamOk.calls kj2 t612 _ _ t613 true _ ?side1 ?side2 A16.out).mono ?_);(case side1=>exact puC (Kd.R_reads' HO615.out).2.2);(case side2=>exact (Kd.R_reads' HO615.out).2.1);rintro e w22 ⟨rfl,hb⟩;have n0_:=m_ (Kd.R_below (puR HO615.out) hb);have n1_:=m_ (blk_below (g:=gb617) (o:=.cells #[.string t612,.slice Ao12 t613.length co12] 25 (0,0)) (puB BK617.out) hb);have n2_:=m_ (l5_ (puM HB.out GE617.out) hb);revert n0_ n1_ n2_;clear HO615 BK617 HB;intro HO615 BK617 HB;(try clear hb);(try clear hb2);(try clear hk);(try clear hi)))
        go_meet
        case rel=>exact ⟨_,(true),(by first|rfl|(simp;done)|(simp [*];done)),H',⟨by have:=HJ2.out;first|omega|exact Nat.le_refl _⟩,⟨by (with_reducible repeat (first|apply Kd.R_alloc|apply Kd.R_drewN|apply Kd.R_drew));exact HO615.out⟩,⟨by (with_reducible repeat first|apply b1_|apply b2_|apply b3_);exact BK617.out⟩,⟨puM HB.out GE617.out⟩⟩
       ·rw [if_neg c18] at H
        have c18b0 : decide (t616 < 0) = false:=decide_eq_false c18
        clear c18
        have H':=m_ H
        clear H
        have hcz23_0 : w13.cell? ⟨gb617,0,none⟩ = some (.string t612):=(c_ BK617.out 0).trans rfl
        have hcz23_1 : w13.cell? ⟨gb617,1,none⟩ = some (.slice Ao12 t613.length co12):=(c_ BK617.out 1).trans rfl
        have hfz23_0:=f_ BK617.out 0
        have hfz23_1:=f_ BK617.out 1
        go_wp2_with (first|((with_reducible refine gate_callee (f:=10) rfl ?_);refine goesL_ (some 28) rfl rfl Tryz.func10 (by kernel_rfl) rfl #[.agg #[.string t612,.slice Ao12 t613.length co12],.int .i64 t616] rfl lens ?_;(with_reducible refine (spec_StreamFor.calls kj2 t612 _ _ t613 t616 t619 _ ?side1 ?side2 A14.out).mono ?_);(case side1=>exact puC (Kd.R_reads' HO615.out).2.2);(case side2=>exact (Kd.R_reads' HO615.out).2.1);rintro e w24 ⟨rfl,hb⟩;refine ⟨_,rfl,?_⟩;have n0_:=m_ (Kd.R_below (puR HO615.out) hb);have n1_:=m_ (blk_below (g:=gb617) (o:=.cells #[.string t612,.slice Ao12 t613.length co12] 25 (0,0)) (puB BK617.out) hb);have n2_:=m_ (l5_ (puM HB.out GE617.out) hb);revert n0_ n1_ n2_;clear HO615 BK617 HB;intro HO615 BK617 HB;(try clear hb);(try clear hb2);(try clear hk);(try clear hi);have hcz25_0 : w24.cell? ⟨gb617,0,none⟩ = some (.string t612):=(c_ BK617.out 0).trans rfl;have hcz25_1 : w24.cell? ⟨gb617,1,none⟩ = some (.slice Ao12 t613.length co12):=(c_ BK617.out 1).trans rfl;have hfz25_0:=f_ BK617.out 0;have hfz25_1:=f_ BK617.out 1)|(go_at_call 11;(with_reducible refine (spec_StreamOk.calls kj2 t612 _ _ t613 true _ ?side1 ?side2 A16.out).mono ?_);(case side1=>exact puC (Kd.R_reads' HO615.out).2.2);(case side2=>exact (Kd.R_reads' HO615.out).2.1);rintro e w26 ⟨rfl,hb⟩;have n0_:=m_ (Kd.R_below (puR HO615.out) hb);have n1_:=m_ (blk_below (g:=gb617) (o:=.cells #[.string t612,.slice Ao12 t613.length co12] 25 (0,0)) (puB BK617.out) hb);have n2_:=m_ (l5_ (puM HB.out GE617.out) hb);revert n0_ n1_ n2_;clear HO615 BK617 HB;intro HO615 BK617 HB;(try clear hb);(try clear hb2);(try clear hk);(try clear hi);have hcz27_0 : w26.cell? ⟨gb617,0,none⟩ = some (.string t612):=(c_ BK617.out 0).trans rfl;have hcz27_1 : w26.cell? ⟨gb617,1,none⟩ = some (.slice Ao12 t613.length co12):=(c_ BK617.out 1).trans rfl;have hfz27_0:=f_ BK617.out 0;have hfz27_1:=f_ BK617.out 1))
        go_meet
        case rel=>exact ⟨_,(decide (t616 > (t612.size : Int))),(by first|rfl|(simp;done)|(simp [*];done)),H',⟨by have:=HJ2.out;first|omega|exact Nat.le_refl _⟩,⟨by (with_reducible repeat (first|apply Kd.R_alloc|apply Kd.R_drewN|apply Kd.R_drew));exact HO615.out⟩,⟨by (with_reducible repeat first|apply b1_|apply b2_|apply b3_);exact BK617.out⟩,⟨puM HB.out GE617.out⟩⟩
      ·replace c17:=Bool.eq_false_iff.mpr c17
       subst c17
       replace H:=ifn H
       have H':=m_ H
       clear H
       have hcz28_0 : w13.cell? ⟨gb617,0,none⟩ = some (.string t612):=(c_ BK617.out 0).trans rfl
       have hcz28_1 : w13.cell? ⟨gb617,1,none⟩ = some (.slice Ao12 t613.length co12):=(c_ BK617.out 1).trans rfl
       have hfz28_0:=f_ BK617.out 0
       have hfz28_1:=f_ BK617.out 1
       go_wp2_with (first|((with_reducible refine gate_callee (f:=10) rfl ?_);refine goesL_ (some 28) rfl rfl Tryz.func10 (by kernel_rfl) rfl #[.agg #[.string t612,.slice Ao12 t613.length co12],.int .i64 t616] rfl lens ?_;(with_reducible refine (spec_StreamFor.calls kj2 t612 _ _ t613 t616 t619 _ ?side1 ?side2 A14.out).mono ?_);(case side1=>exact puC (Kd.R_reads' HO615.out).2.2);(case side2=>exact (Kd.R_reads' HO615.out).2.1);rintro e w29 ⟨rfl,hb⟩;refine ⟨_,rfl,?_⟩;have n0_:=m_ (Kd.R_below (puR HO615.out) hb);have n1_:=m_ (blk_below (g:=gb617) (o:=.cells #[.string t612,.slice Ao12 t613.length co12] 25 (0,0)) (puB BK617.out) hb);have n2_:=m_ (l5_ (puM HB.out GE617.out) hb);revert n0_ n1_ n2_;clear HO615 BK617 HB;intro HO615 BK617 HB;(try clear hb);(try clear hb2);(try clear hk);(try clear hi);have hcz30_0 : w29.cell? ⟨gb617,0,none⟩ = some (.string t612):=(c_ BK617.out 0).trans rfl;have hcz30_1 : w29.cell? ⟨gb617,1,none⟩ = some (.slice Ao12 t613.length co12):=(c_ BK617.out 1).trans rfl;have hfz30_0:=f_ BK617.out 0;have hfz30_1:=f_ BK617.out 1)|(go_at_call 11;(with_reducible refine (spec_StreamOk.calls kj2 t612 _ _ t613 false _ ?side1 ?side2 A16.out).mono ?_);(case side1=>exact puC (Kd.R_reads' HO615.out).2.2);(case side2=>exact (Kd.R_reads' HO615.out).2.1);rintro e w31 ⟨rfl,hb⟩;have n0_:=m_ (Kd.R_below (puR HO615.out) hb);have n1_:=m_ (blk_below (g:=gb617) (o:=.cells #[.string t612,.slice Ao12 t613.length co12] 25 (0,0)) (puB BK617.out) hb);have n2_:=m_ (l5_ (puM HB.out GE617.out) hb);revert n0_ n1_ n2_;clear HO615 BK617 HB;intro HO615 BK617 HB;(try clear hb);(try clear hb2);(try clear hk);(try clear hi)))
       go_meet
       case rel=>exact ⟨_,(true),(by first|rfl|(simp;done)|(simp [*];done)),H',⟨by have:=HJ2.out;first|omega|exact Nat.le_refl _⟩,⟨by (with_reducible repeat (first|apply Kd.R_alloc|apply Kd.R_drewN|apply Kd.R_drew));exact HO615.out⟩,⟨by (with_reducible repeat first|apply b1_|apply b2_|apply b3_);exact BK617.out⟩,⟨puM HB.out GE617.out⟩⟩
     ·rw [if_neg c15] at H
      have c15b0 : (t618 == t619) = false:=beq_eq_false_iff_ne.mpr c15
      have c15b1 : (t618 != t619) = true:=bne_iff_ne.mpr c15
      (first|rw [c15b0]|(simp only [i64_w,i32_w];rw [c15b0])|skip)
      have H':=m_ H
      clear H
      have hcz32_0 : w13.cell? ⟨gb617,0,none⟩ = some (.string t612):=(c_ BK617.out 0).trans rfl
      have hcz32_1 : w13.cell? ⟨gb617,1,none⟩ = some (.slice Ao12 t613.length co12):=(c_ BK617.out 1).trans rfl
      have hfz32_0:=f_ BK617.out 0
      have hfz32_1:=f_ BK617.out 1
      go_wp2_with (first|((with_reducible refine gate_callee (f:=10) rfl ?_);refine goesL_ (some 28) rfl rfl Tryz.func10 (by kernel_rfl) rfl #[.agg #[.string t612,.slice Ao12 t613.length co12],.int .i64 t616] rfl lens ?_;(with_reducible refine (spec_StreamFor.calls kj2 t612 _ _ t613 t616 t619 _ ?side1 ?side2 A14.out).mono ?_);(case side1=>exact puC (Kd.R_reads' HO615.out).2.2);(case side2=>exact (Kd.R_reads' HO615.out).2.1);rintro e w33 ⟨rfl,hb⟩;refine ⟨_,rfl,?_⟩;have n0_:=m_ (Kd.R_below (puR HO615.out) hb);have n1_:=m_ (blk_below (g:=gb617) (o:=.cells #[.string t612,.slice Ao12 t613.length co12] 25 (0,0)) (puB BK617.out) hb);have n2_:=m_ (l5_ (puM HB.out GE617.out) hb);revert n0_ n1_ n2_;clear HO615 BK617 HB;intro HO615 BK617 HB;(try clear hb);(try clear hb2);(try clear hk);(try clear hi)))
      go_meet
      case rel=>exact ⟨_,(true),(by first|rfl|(simp;done)|(simp [*];done)),H',⟨by have:=HJ2.out;first|omega|exact Nat.le_refl _⟩,⟨by (with_reducible repeat (first|apply Kd.R_alloc|apply Kd.R_drewN|apply Kd.R_drew));exact HO615.out⟩,⟨by (with_reducible repeat first|apply b1_|apply b2_|apply b3_);exact BK617.out⟩,⟨puM HB.out GE617.out⟩⟩
    case rest =>
     clear HC8
     try clear c1
     try clear p2
     try clear c4
     try clear c4b0
     try clear c4b1
     try clear c5
     try clear c7
     try clear c8
     try clear c9
     try clear c10
     try clear c15
     try clear c15b0
     try clear c15b1
     try clear c17
     try clear c18
     try clear c18b0
     try clear hcz11_0
     try clear hcz11_1
     try clear hcz19_0
     try clear hcz19_1
     try clear hcz21_0
     try clear hcz21_1
     try clear hcz23_0
     try clear hcz23_1
     try clear hcz25_0
     try clear hcz25_1
     try clear hcz27_0
     try clear hcz27_1
     try clear hcz28_0
     try clear hcz28_1
     try clear hcz30_0
     try clear hcz30_1
     try clear hcz32_0
     try clear hcz32_1
     try clear hfz11_0
     try clear hfz11_1
     try clear hfz19_0
     try clear hfz19_1
     try clear hfz21_0
     try clear hfz21_1
     try clear hfz23_0
     try clear hfz23_1
     try clear hfz25_0
     try clear hfz25_1
     try clear hfz27_0
     try clear hfz27_1
     try clear hfz28_0
     try clear hfz28_1
     try clear hfz30_0
     try clear hfz30_1
     try clear hfz32_0
     try clear hfz32_1
     try clear p2
     obtain ⟨kq,x45_7,rfl,HA,HJ7,HO_618001,BK617,HB⟩:=hcut
     cases kq with
     | zero => exact absurd HA.out (by simp [laws_FnStreamFor.j1])
     | succ kj7 =>
      have H:=HA.out
      clear HA
      simp only [laws_FnStreamFor.j1] at H
      by_cases c34 : x45_7 = true
      ·subst c34
       replace H:=ifp H rfl
       replace H:=Option.bind_eq_some_iff.mp H
       obtain ⟨t621,A350,H⟩:=H
       have A35:=m_ A350
       clear A350
       obtain rfl:=Option.some.inj H
       have hcz36_0 : wc.cell? ⟨gb617,0,none⟩ = some (.string t612):=(c_ BK617.out 0).trans rfl
       have hcz36_1 : wc.cell? ⟨gb617,1,none⟩ = some (.slice Ao12 t613.length co12):=(c_ BK617.out 1).trans rfl
       have hfz36_0:=f_ BK617.out 0
       have hfz36_1:=f_ BK617.out 1
       go_wp2_with (first|((with_reducible refine gate_callee (f:=10) rfl ?_);refine goesL_ (some 49) rfl rfl Tryz.func10 (by kernel_rfl) rfl #[.agg #[.string t612,.slice Ao12 t613.length co12],.int .i64 t616] rfl lens ?_;(with_reducible refine (spec_StreamFor.calls kj7 t612 _ _ t613 t616 t621 _ ?side1 ?side2 A35.out).mono ?_);(case side1=>exact puC (Kd.R_reads' HO_618001.out).2.2);(case side2=>exact (Kd.R_reads' HO_618001.out).2.1);rintro e w37 ⟨rfl,hb⟩;refine ⟨_,rfl,?_⟩;have n0_:=m_ (Kd.R_below (puR HO_618001.out) hb);have n1_:=m_ (blk_below (g:=gb617) (o:=.cells #[.string t612,.slice Ao12 t613.length co12] 25 (0,0)) (puB BK617.out) hb);have n2_:=m_ (l5_ (puM HB.out GE617.out) hb);revert n0_ n1_ n2_;clear HO_618001 BK617 HB;intro HO_618001 BK617 HB;(try clear hb);(try clear hb2);(try clear hk);(try clear hi)))
       go_ret
       exact ⟨eqs,puM HB.out GE617.out⟩
      ·replace c34:=Bool.eq_false_iff.mpr c34
       subst c34
       replace H:=ifn H
       by_cases c38 : (wrap64 (t616 + 1)) = 0
       ·rw [if_pos c38] at H
        exact absurd H (by simp)
       ·rw [if_neg c38] at H
        have c38b0 : ((wrap64 (t616 + 1)) == 0) = false:=beq_eq_false_iff_ne.mpr c38
        have c38b1 : ((wrap64 (t616 + 1)) != 0) = true:=bne_iff_ne.mpr c38
        replace H:=Option.bind_eq_some_iff.mp H
        obtain ⟨t622,A390,H⟩:=H
        have A39:=m_ A390
        clear A390
        by_cases c40 : t622 = 0
        ·rw [if_pos c40] at H
         have c40b0 : (t622 == 0) = true:=beq_iff_eq.mpr c40
         have c40b1 : (t622 != 0) = false:=bne_eq_false_iff_eq.mpr c40
         clear c40
         replace H:=Option.bind_eq_some_iff.mp H
         obtain ⟨t623,A410,H⟩:=H
         have A41:=m_ A410
         clear A410
         by_cases c42 : t623 ≤ t618
         ·rw [if_pos c42] at H
          have c42b0 : decide (t623 ≤ t618) = true:=decide_eq_true c42
          clear c42
          replace H:=Option.bind_eq_some_iff.mp H
          obtain ⟨t624,A430,H⟩:=H
          have A43:=m_ A430
          clear A430
          replace H:=Option.bind_eq_some_iff.mp H
          obtain ⟨t625,A440,H⟩:=H
          have A44:=m_ A440
          clear A440
          by_cases c45 : t624 = (t625.size : Int)
          ·rw [if_pos c45] at H
           have c45b0 : (t624 == (t625.size : Int)) = true:=beq_iff_eq.mpr c45
           have c45b1 : (t624 != (t625.size : Int)) = false:=bne_eq_false_iff_eq.mpr c45
           clear c45
           replace H:=Option.bind_eq_some_iff.mp H
           obtain ⟨t626,A460,H⟩:=H
           have A46:=m_ A460
           clear A460
           by_cases c47 : t618 ≤ (t626.size : Int)
           ·rw [if_pos c47] at H
            have c47b0 : decide (t618 ≤ (t626.size : Int)) = true:=decide_eq_true c47
            clear c47
            replace H:=Option.bind_eq_some_iff.mp H
            obtain ⟨t627,A480,H⟩:=H
            have A48:=m_ A480
            clear A480
            replace H:=Option.bind_eq_some_iff.mp H
            obtain ⟨t628,A490,H⟩:=H
            have A49:=m_ A490
            clear A490
            replace H:=Option.bind_eq_some_iff.mp H
            obtain ⟨t629,A500,H⟩:=H
            have A50:=m_ A500
            clear A500
            obtain rfl:=Option.some.inj H
            try go_wp2
            have n0_:=m_ (Kd.R_drew HO_618001.out)
            have n1_:=m_ (b2_ BK617.out)
            have n2_:=m_ (l3_ HB.out)
            clear HO_618001
            clear BK617
            clear HB
            have HO_618001:=n0_
            have BK617:=n1_
            have HB:=n2_
            clear n0_ n1_ n2_
            refine start_ (n:=44) (S:=fun w'=>w'.cell? ⟨gb617,0,none⟩ = some (.string t612) ∧ w'.cell? ⟨gb617,1,none⟩ = some (.slice Ao12 t613.length co12)) (ds:=[]) #[false,false,false,false,false,false,false,false,false,false,false,false,false,false,false,false,false,false,false,false,false,false,false,false,false,false,false,false,false,false,false,false,false,false,false,false,false,false,false,false,false,false,false,false] (by kernel_rfl) rfl rfl ⟨(c_ BK617.out 0).trans rfl,(c_ BK617.out 1).trans rfl⟩ (fun hHeld=>?_);refine with_tabW laws_FnStreamFor.tab8 laws_FnStreamFor.bits8 (fun HT_ HW_=>?_)
            generalize wc.drew = w51 at HO_618001 BK617 HB hHeld ⊢
            refine takeA 0 (some 56) rfl rfl HT_.out HW_.out hHeld ?_ (by rintro w' ⟨s0,s1⟩;go_simp;with_reducible rfl)
            refine one_ (i:=1) (N:=some 57) #[true,true,false,false,false,false,false,false,false,false,false,false,false,false,false,false,false,false,false,false,false,false,false,false,false,false,false,false,false,false,false,false,false,false,false,false,false,false,false,false,false,false,false,false] rfl rfl (one_of HT_.out (by kernel_rfl)) (by decide) (fun K hK=>?_)
            refine goes_ Tryz.func9 (by kernel_rfl) rfl #[.agg #[.string t612,.slice Ao12 t613.length co12],.int .i64 0] (by rfl) rfl rfl lens ?_
            with_reducible refine (impl_StreamFor.calls kj7 t612 _ _ t613 0 t622 _ ?side1 ?side2 ?side3 A39.out).mono ?_
            (case side1=>exact puC (Kd.R_reads' HO_618001.out).2.2)
            (case side2=>exact (Kd.R_reads' HO_618001.out).2.1)
            (case side3=>first|(with_reducible exact HG.out)|exact GV_below HG.out (puM HB.out GE617.out))
            rintro e w52 ⟨rfl,hb⟩
            refine ⟨_,rfl,?_⟩
            have n0_:=m_ (Kd.R_below (puR HO_618001.out) hb)
            have n1_:=m_ (blk_below (g:=gb617) (o:=.cells #[.string t612,.slice Ao12 t613.length co12] 25 (0,0)) (puB BK617.out) hb)
            have n2_:=m_ (l5_ (puM HB.out GE617.out) hb)
            clear HO_618001
            clear BK617
            clear HB
            have HO_618001:=n0_
            have BK617:=n1_
            have HB:=n2_
            clear n0_ n1_ n2_
            (try clear hb)
            (try clear hb2)
            (try clear hk)
            (try clear hi)
            refine hK.out _ _ ⟨(c_ BK617.out 0).trans rfl,(c_ BK617.out 1).trans rfl⟩ (fun hHeld=>?_)
            clear hK K
            refine norm_ (a':=?_) ?_ ?_
            rotate_left
            ·show Act.put _ (some 57) _ = _
             simp only [Act.put,s1_,s2_,s3_,i64_w,i32_w]
             rfl
            refine pureA 2 (some 58) HT_.out ?_
            refine pureA 3 (some 59) HT_.out ?_
            refine pureA 5 (some 61) HT_.out ?_
            refine pureA 7 (some 63) HT_.out ?_
            refine takeA 4 (some 60) rfl rfl HT_.out HW_.out hHeld ?_ (by rintro w' ⟨s0,s1⟩;go_simp;with_reducible rfl)
            refine one_ (i:=6) (N:=some 62) #[true,true,true,true,true,true,true,true,false,false,false,false,false,false,false,false,false,false,false,false,false,false,false,false,false,false,false,false,false,false,false,false,false,false,false,false,false,false,false,false,false,false,false,false] rfl rfl (one_of HT_.out (by kernel_rfl)) (by decide) (fun K hK=>?_)
            refine goes_ Tryz.func9 (by kernel_rfl) rfl #[.agg #[.string t612,.slice Ao12 t613.length co12],.int .i64 ((l1.length : Int) % (wrap64 (t616 + 1)))] (by rfl) rfl rfl lens ?_
            with_reducible refine (impl_StreamFor.calls kj7 t612 _ _ t613 ((l1.length : Int) % (wrap64 (t616 + 1))) t623 _ ?side1 ?side2 ?side3 A41.out).mono ?_
            (case side1=>exact puC (Kd.R_reads' HO_618001.out).2.2)
            (case side2=>exact (Kd.R_reads' HO_618001.out).2.1)
            (case side3=>first|(with_reducible exact HG.out)|exact GV_below HG.out (puM HB.out GE617.out))
            rintro e w53 ⟨rfl,hb⟩
            refine ⟨_,rfl,?_⟩
            have n0_:=m_ (Kd.R_below (puR HO_618001.out) hb)
            have n1_:=m_ (blk_below (g:=gb617) (o:=.cells #[.string t612,.slice Ao12 t613.length co12] 25 (0,0)) (puB BK617.out) hb)
            have n2_:=m_ (l5_ (puM HB.out GE617.out) hb)
            clear HO_618001
            clear BK617
            clear HB
            have HO_618001:=n0_
            have BK617:=n1_
            have HB:=n2_
            clear n0_ n1_ n2_
            (try clear hb)
            (try clear hb2)
            (try clear hk)
            (try clear hi)
            refine hK.out _ _ ⟨(c_ BK617.out 0).trans rfl,(c_ BK617.out 1).trans rfl⟩ (fun hHeld=>?_)
            clear hK K
            refine norm_ (a':=?_) ?_ ?_
            rotate_left
            ·show Act.put _ (some 62) _ = _
             simp only [Act.put,s1_,s2_,s3_,i64_w,i32_w]
             rfl
            refine pureA 8 (some 64) HT_.out ?_
            refine pureA 9 (some 65) HT_.out ?_
            refine pureA 10 (some 66) HT_.out ?_
            refine pureA 12 (some 68) HT_.out ?_
            refine takeA 11 (some 67) rfl rfl HT_.out HW_.out hHeld ?_ (by rintro w' ⟨s0,s1⟩;go_simp;with_reducible rfl)
            refine takeA 13 (some 69) rfl rfl HT_.out HW_.out hHeld ?_ (by rintro w' ⟨s0,s1⟩;go_simp;with_reducible rfl)
            refine pureA 14 (some 70) HT_.out ?_
            refine takeA 16 (some 72) rfl rfl HT_.out HW_.out hHeld ?_ (by rintro w' ⟨s0,s1⟩;go_simp;with_reducible rfl)
            refine one_ (i:=15) (N:=some 71) #[true,true,true,true,true,true,true,true,true,true,true,true,true,true,true,true,true,false,false,false,false,false,false,false,false,false,false,false,false,false,false,false,false,false,false,false,false,false,false,false,false,false,false,false] rfl rfl (one_of HT_.out (by kernel_rfl)) (by decide) (fun K hK=>?_)
            refine goes_ Tryz.func9 (by kernel_rfl) rfl #[.agg #[.string t612,.slice Ao12 t613.length co12],.int .i64 (t612.size : Int)] (by rfl) rfl rfl lens ?_
            with_reducible refine (impl_StreamFor.calls kj7 t612 _ _ t613 (t612.size : Int) t624 _ ?side1 ?side2 ?side3 A43.out).mono ?_
            (case side1=>exact puC (Kd.R_reads' HO_618001.out).2.2)
            (case side2=>exact (Kd.R_reads' HO_618001.out).2.1)
            (case side3=>first|(with_reducible exact HG.out)|exact GV_below HG.out (puM HB.out GE617.out))
            rintro e w54 ⟨rfl,hb⟩
            refine ⟨_,rfl,?_⟩
            have n0_:=m_ (Kd.R_below (puR HO_618001.out) hb)
            have n1_:=m_ (blk_below (g:=gb617) (o:=.cells #[.string t612,.slice Ao12 t613.length co12] 25 (0,0)) (puB BK617.out) hb)
            have n2_:=m_ (l5_ (puM HB.out GE617.out) hb)
            clear HO_618001
            clear BK617
            clear HB
            have HO_618001:=n0_
            have BK617:=n1_
            have HB:=n2_
            clear n0_ n1_ n2_
            (try clear hb)
            (try clear hb2)
            (try clear hk)
            (try clear hi)
            refine hK.out _ _ ⟨(c_ BK617.out 0).trans rfl,(c_ BK617.out 1).trans rfl⟩ (fun hHeld=>?_)
            clear hK K
            refine norm_ (a':=?_) ?_ ?_
            rotate_left
            ·show Act.put _ (some 71) _ = _
             simp only [Act.put,s1_,s2_,s3_,i64_w,i32_w]
             rfl
            refine one_ (i:=17) (N:=some 73) #[true,true,true,true,true,true,true,true,true,true,true,true,true,true,true,true,true,true,false,false,false,false,false,false,false,false,false,false,false,false,false,false,false,false,false,false,false,false,false,false,false,false,false,false] rfl rfl (one_of HT_.out (by kernel_rfl)) (by decide) (fun K hK=>?_)
            refine goes_ Tryz.func15 (by kernel_rfl) rfl #[.agg #[.string t612,.slice Ao12 t613.length co12]] (by rfl) rfl rfl lens ?_
            with_reducible refine (impl_StreamOut.calls kj7 t612 _ _ t613 t625 _ ?side1 ?side2 ?side3 A44.out).mono ?_
            (case side1=>exact puC (Kd.R_reads' HO_618001.out).2.2)
            (case side2=>exact (Kd.R_reads' HO_618001.out).2.1)
            (case side3=>first|(with_reducible exact HG.out)|exact GV_below HG.out (puM HB.out GE617.out))
            rintro e w55 ⟨rfl,hb⟩
            refine ⟨_,rfl,?_⟩
            have n0_:=m_ (Kd.R_below (puR HO_618001.out) hb)
            have n1_:=m_ (blk_below (g:=gb617) (o:=.cells #[.string t612,.slice Ao12 t613.length co12] 25 (0,0)) (puB BK617.out) hb)
            have n2_:=m_ (l5_ (puM HB.out GE617.out) hb)
            clear HO_618001
            clear BK617
            clear HB
            have HO_618001:=n0_
            have BK617:=n1_
            have HB:=n2_
            clear n0_ n1_ n2_
            (try clear hb)
            (try clear hb2)
            (try clear hk)
            (try clear hi)
            refine hK.out _ _ ⟨(c_ BK617.out 0).trans rfl,(c_ BK617.out 1).trans rfl⟩ (fun hHeld=>?_)
            clear hK K
            refine norm_ (a':=?_) ?_ ?_
            rotate_left
            ·show Act.put _ (some 73) _ = _
             simp only [Act.put,s1_,s2_,s3_,i64_w,i32_w]
             rfl
            refine pureA 18 (some 74) HT_.out ?_
            refine pureA 19 (some 75) HT_.out ?_
            refine pureA 20 (some 76) HT_.out ?_
            refine pureA 21 (some 77) HT_.out ?_
            refine pureA 22 (some 78) HT_.out ?_
            refine takeA 23 (some 79) rfl rfl HT_.out HW_.out hHeld ?_ (by rintro w' ⟨s0,s1⟩;go_simp;with_reducible rfl)
            refine one_ (i:=24) (N:=some 80) #[true,true,true,true,true,true,true,true,true,true,true,true,true,true,true,true,true,true,true,true,true,true,true,true,true,false,false,false,false,false,false,false,false,false,false,false,false,false,false,false,false,false,false,false] rfl rfl (one_of HT_.out (by kernel_rfl)) (by decide) (fun K hK=>?_)
            refine goes_ Tryz.func15 (by kernel_rfl) rfl #[.agg #[.string t612,.slice Ao12 t613.length co12]] (by rfl) rfl rfl lens ?_
            with_reducible refine (impl_StreamOut.calls kj7 t612 _ _ t613 t626 _ ?side1 ?side2 ?side3 A46.out).mono ?_
            (case side1=>exact puC (Kd.R_reads' HO_618001.out).2.2)
            (case side2=>exact (Kd.R_reads' HO_618001.out).2.1)
            (case side3=>first|(with_reducible exact HG.out)|exact GV_below HG.out (puM HB.out GE617.out))
            rintro e w56 ⟨rfl,hb⟩
            refine ⟨_,rfl,?_⟩
            have n0_:=m_ (Kd.R_below (puR HO_618001.out) hb)
            have n1_:=m_ (blk_below (g:=gb617) (o:=.cells #[.string t612,.slice Ao12 t613.length co12] 25 (0,0)) (puB BK617.out) hb)
            have n2_:=m_ (l5_ (puM HB.out GE617.out) hb)
            clear HO_618001
            clear BK617
            clear HB
            have HO_618001:=n0_
            have BK617:=n1_
            have HB:=n2_
            clear n0_ n1_ n2_
            (try clear hb)
            (try clear hb2)
            (try clear hk)
            (try clear hi)
            refine hK.out _ _ ⟨(c_ BK617.out 0).trans rfl,(c_ BK617.out 1).trans rfl⟩ (fun hHeld=>?_)
            clear hK K
            refine norm_ (a':=?_) ?_ ?_
            rotate_left
            ·show Act.put _ (some 80) _ = _
             simp only [Act.put,s1_,s2_,s3_,i64_w,i32_w]
             rfl
            refine pureA 25 (some 81) HT_.out ?_
            refine pureA 26 (some 82) HT_.out ?_
            refine pureA 27 (some 83) HT_.out ?_
            refine pureA 28 (some 84) HT_.out ?_
            refine pureA 30 (some 86) HT_.out ?_
            refine pureA 33 (some 89) HT_.out ?_
            refine takeA 29 (some 85) rfl rfl HT_.out HW_.out hHeld ?_ (by rintro w' ⟨s0,s1⟩;go_simp;with_reducible rfl)
            refine takeA 31 (some 87) rfl rfl HT_.out HW_.out hHeld ?_ (by rintro w' ⟨s0,s1⟩;go_simp;with_reducible rfl)
            refine pureA 32 (some 88) HT_.out ?_
            refine takeA 34 (some 90) rfl rfl HT_.out HW_.out hHeld ?_ (by rintro w' ⟨s0,s1⟩;go_simp;with_reducible rfl)
            refine takeA 38 (some 94) rfl rfl HT_.out HW_.out hHeld ?_ (by rintro w' ⟨s0,s1⟩;go_simp;with_reducible rfl)
            refine one_ (i:=35) (N:=some 91) #[true,true,true,true,true,true,true,true,true,true,true,true,true,true,true,true,true,true,true,true,true,true,true,true,true,true,true,true,true,true,true,true,true,true,true,true,false,false,true,false,false,false,false,false] rfl rfl (one_of HT_.out (by kernel_rfl)) (by decide) (fun K hK=>?_)
            refine goes_ Tryz.func16 (by kernel_rfl) rfl #[.string t612] (by rfl) rfl rfl lens ?_
            with_reducible refine (impl_TextHeld.calls kj7 t612 t627 _ A48.out).mono ?_
            rintro e w57 ⟨rfl,hb⟩
            refine ⟨_,rfl,?_⟩
            have n0_:=m_ (Kd.R_below (puR HO_618001.out) hb)
            have n1_:=m_ (blk_below (g:=gb617) (o:=.cells #[.string t612,.slice Ao12 t613.length co12] 25 (0,0)) (puB BK617.out) hb)
            have n2_:=m_ (l5_ (puM HB.out GE617.out) hb)
            clear HO_618001
            clear BK617
            clear HB
            have HO_618001:=n0_
            have BK617:=n1_
            have HB:=n2_
            clear n0_ n1_ n2_
            (try clear hb)
            (try clear hb2)
            (try clear hk)
            (try clear hi)
            refine hK.out _ _ ⟨(c_ BK617.out 0).trans rfl,(c_ BK617.out 1).trans rfl⟩ (fun hHeld=>?_)
            clear hK K
            refine norm_ (a':=?_) ?_ ?_
            rotate_left
            ·show Act.put _ (some 91) _ = _
             simp only [Act.put,s1_,s2_,s3_,i64_w,i32_w]
             rfl
            refine pureA 36 (some 92) HT_.out ?_
            refine one_ (i:=37) (N:=some 93) #[true,true,true,true,true,true,true,true,true,true,true,true,true,true,true,true,true,true,true,true,true,true,true,true,true,true,true,true,true,true,true,true,true,true,true,true,true,true,true,false,false,false,false,false] rfl rfl (one_of HT_.out (by kernel_rfl)) (by decide) (fun K hK=>?_)
            refine goes_ Tryz.func9 (by kernel_rfl) rfl #[.agg #[.string t612,.slice Ao12 t613.length co12],.int .i64 (wrap64 ((t612.size : Int) - t627))] (by rfl) rfl rfl lens ?_
            with_reducible refine (impl_StreamFor.calls kj7 t612 _ _ t613 (wrap64 ((t612.size : Int) - t627)) t628 _ ?side1 ?side2 ?side3 A49.out).mono ?_
            (case side1=>exact puC (Kd.R_reads' HO_618001.out).2.2)
            (case side2=>exact (Kd.R_reads' HO_618001.out).2.1)
            (case side3=>first|(with_reducible exact HG.out)|exact GV_below HG.out (puM HB.out GE617.out))
            rintro e w58 ⟨rfl,hb⟩
            refine ⟨_,rfl,?_⟩
            have n0_:=m_ (Kd.R_below (puR HO_618001.out) hb)
            have n1_:=m_ (blk_below (g:=gb617) (o:=.cells #[.string t612,.slice Ao12 t613.length co12] 25 (0,0)) (puB BK617.out) hb)
            have n2_:=m_ (l5_ (puM HB.out GE617.out) hb)
            clear HO_618001
            clear BK617
            clear HB
            have HO_618001:=n0_
            have BK617:=n1_
            have HB:=n2_
            clear n0_ n1_ n2_
            (try clear hb)
            (try clear hb2)
            (try clear hk)
            (try clear hi)
            refine hK.out _ _ ⟨(c_ BK617.out 0).trans rfl,(c_ BK617.out 1).trans rfl⟩ (fun hHeld=>?_)
            clear hK K
            refine norm_ (a':=?_) ?_ ?_
            rotate_left
            ·show Act.put _ (some 93) _ = _
             simp only [Act.put,s1_,s2_,s3_,i64_w,i32_w]
             rfl
            refine one_ (i:=39) (N:=some 95) #[true,true,true,true,true,true,true,true,true,true,true,true,true,true,true,true,true,true,true,true,true,true,true,true,true,true,true,true,true,true,true,true,true,true,true,true,true,true,true,true,false,false,false,false] rfl rfl (one_of HT_.out (by kernel_rfl)) (by decide) (fun K hK=>?_)
            refine goes_ Tryz.func15 (by kernel_rfl) rfl #[.agg #[.string t612,.slice Ao12 t613.length co12]] (by rfl) rfl rfl lens ?_
            with_reducible refine (impl_StreamOut.calls kj7 t612 _ _ t613 t629 _ ?side1 ?side2 ?side3 A50.out).mono ?_
            (case side1=>exact puC (Kd.R_reads' HO_618001.out).2.2)
            (case side2=>exact (Kd.R_reads' HO_618001.out).2.1)
            (case side3=>first|(with_reducible exact HG.out)|exact GV_below HG.out (puM HB.out GE617.out))
            rintro e w59 ⟨rfl,hb⟩
            refine ⟨_,rfl,?_⟩
            have n0_:=m_ (Kd.R_below (puR HO_618001.out) hb)
            have n1_:=m_ (blk_below (g:=gb617) (o:=.cells #[.string t612,.slice Ao12 t613.length co12] 25 (0,0)) (puB BK617.out) hb)
            have n2_:=m_ (l5_ (puM HB.out GE617.out) hb)
            clear HO_618001
            clear BK617
            clear HB
            have HO_618001:=n0_
            have BK617:=n1_
            have HB:=n2_
            clear n0_ n1_ n2_
            (try clear hb)
            (try clear hb2)
            (try clear hk)
            (try clear hi)
            refine hK.out _ _ ⟨(c_ BK617.out 0).trans rfl,(c_ BK617.out 1).trans rfl⟩ (fun hHeld=>?_)
            clear hK K
            refine norm_ (a':=?_) ?_ ?_
            rotate_left
            ·show Act.put _ (some 95) _ = _
             simp only [Act.put,s1_,s2_,s3_,i64_w,i32_w]
             rfl
            refine pureA 40 (some 96) HT_.out ?_
            refine pureA 41 (some 97) HT_.out ?_
            refine pureA 42 (some 98) HT_.out ?_
            refine pureA 43 (some 4) HT_.out ?_
            refine done_ (done_of HT_.out (by kernel_rfl)) ?_
            try go_wp2
            go_ret
            exact ⟨eqs,puM HB.out GE617.out⟩
           ·rw [if_neg c47] at H
            have c47b0 : decide (t618 ≤ (t626.size : Int)) = false:=decide_eq_false c47
            clear c47
            obtain rfl:=Option.some.inj H
            try go_wp2
            have n0_:=m_ (Kd.R_drew HO_618001.out)
            have n1_:=m_ (b2_ BK617.out)
            have n2_:=m_ (l3_ HB.out)
            clear HO_618001
            clear BK617
            clear HB
            have HO_618001:=n0_
            have BK617:=n1_
            have HB:=n2_
            clear n0_ n1_ n2_
            refine start_ (n:=44) (S:=fun w'=>w'.cell? ⟨gb617,0,none⟩ = some (.string t612) ∧ w'.cell? ⟨gb617,1,none⟩ = some (.slice Ao12 t613.length co12)) (ds:=[]) #[false,false,false,false,false,false,false,false,false,false,false,false,false,false,false,false,false,false,false,false,false,false,false,false,false,false,false,false,false,false,false,false,false,false,false,false,false,false,false,false,false,false,false,false] (by kernel_rfl) rfl rfl ⟨(c_ BK617.out 0).trans rfl,(c_ BK617.out 1).trans rfl⟩ (fun hHeld=>?_);refine with_tabW laws_FnStreamFor.tab8 laws_FnStreamFor.bits8 (fun HT_ HW_=>?_)
            generalize wc.drew = w60 at HO_618001 BK617 HB hHeld ⊢
            refine takeA 0 (some 56) rfl rfl HT_.out HW_.out hHeld ?_ (by rintro w' ⟨s0,s1⟩;go_simp;with_reducible rfl)
            refine one_ (i:=1) (N:=some 57) #[true,true,false,false,false,false,false,false,false,false,false,false,false,false,false,false,false,false,false,false,false,false,false,false,false,false,false,false,false,false,false,false,false,false,false,false,false,false,false,false,false,false,false,false] rfl rfl (one_of HT_.out (by kernel_rfl)) (by decide) (fun K hK=>?_)
            refine goes_ Tryz.func9 (by kernel_rfl) rfl #[.agg #[.string t612,.slice Ao12 t613.length co12],.int .i64 0] (by rfl) rfl rfl lens ?_
            with_reducible refine (impl_StreamFor.calls kj7 t612 _ _ t613 0 t622 _ ?side1 ?side2 ?side3 A39.out).mono ?_
            (case side1=>exact puC (Kd.R_reads' HO_618001.out).2.2)
            (case side2=>exact (Kd.R_reads' HO_618001.out).2.1)
            (case side3=>first|(with_reducible exact HG.out)|exact GV_below HG.out (puM HB.out GE617.out))
            rintro e w61 ⟨rfl,hb⟩
            refine ⟨_,rfl,?_⟩
            have n0_:=m_ (Kd.R_below (puR HO_618001.out) hb)
            have n1_:=m_ (blk_below (g:=gb617) (o:=.cells #[.string t612,.slice Ao12 t613.length co12] 25 (0,0)) (puB BK617.out) hb)
            have n2_:=m_ (l5_ (puM HB.out GE617.out) hb)
            clear HO_618001
            clear BK617
            clear HB
            have HO_618001:=n0_
            have BK617:=n1_
            have HB:=n2_
            clear n0_ n1_ n2_
            (try clear hb)
            (try clear hb2)
            (try clear hk)
            (try clear hi)
            refine hK.out _ _ ⟨(c_ BK617.out 0).trans rfl,(c_ BK617.out 1).trans rfl⟩ (fun hHeld=>?_)
            clear hK K
            refine norm_ (a':=?_) ?_ ?_
            rotate_left
            ·show Act.put _ (some 57) _ = _
             simp only [Act.put,s1_,s2_,s3_,i64_w,i32_w]
             rfl
            refine pureA 2 (some 58) HT_.out ?_
            refine pureA 3 (some 59) HT_.out ?_
            refine pureA 5 (some 61) HT_.out ?_
            refine pureA 7 (some 63) HT_.out ?_
            refine takeA 4 (some 60) rfl rfl HT_.out HW_.out hHeld ?_ (by rintro w' ⟨s0,s1⟩;go_simp;with_reducible rfl)
            refine one_ (i:=6) (N:=some 62) #[true,true,true,true,true,true,true,true,false,false,false,false,false,false,false,false,false,false,false,false,false,false,false,false,false,false,false,false,false,false,false,false,false,false,false,false,false,false,false,false,false,false,false,false] rfl rfl (one_of HT_.out (by kernel_rfl)) (by decide) (fun K hK=>?_)
            refine goes_ Tryz.func9 (by kernel_rfl) rfl #[.agg #[.string t612,.slice Ao12 t613.length co12],.int .i64 ((l1.length : Int) % (wrap64 (t616 + 1)))] (by rfl) rfl rfl lens ?_
            with_reducible refine (impl_StreamFor.calls kj7 t612 _ _ t613 ((l1.length : Int) % (wrap64 (t616 + 1))) t623 _ ?side1 ?side2 ?side3 A41.out).mono ?_
            (case side1=>exact puC (Kd.R_reads' HO_618001.out).2.2)
            (case side2=>exact (Kd.R_reads' HO_618001.out).2.1)
            (case side3=>first|(with_reducible exact HG.out)|exact GV_below HG.out (puM HB.out GE617.out))
            rintro e w62 ⟨rfl,hb⟩
            refine ⟨_,rfl,?_⟩
            have n0_:=m_ (Kd.R_below (puR HO_618001.out) hb)
            have n1_:=m_ (blk_below (g:=gb617) (o:=.cells #[.string t612,.slice Ao12 t613.length co12] 25 (0,0)) (puB BK617.out) hb)
            have n2_:=m_ (l5_ (puM HB.out GE617.out) hb)
            clear HO_618001
            clear BK617
            clear HB
            have HO_618001:=n0_
            have BK617:=n1_
            have HB:=n2_
            clear n0_ n1_ n2_
            (try clear hb)
            (try clear hb2)
            (try clear hk)
            (try clear hi)
            refine hK.out _ _ ⟨(c_ BK617.out 0).trans rfl,(c_ BK617.out 1).trans rfl⟩ (fun hHeld=>?_)
            clear hK K
            refine norm_ (a':=?_) ?_ ?_
            rotate_left
            ·show Act.put _ (some 62) _ = _
             simp only [Act.put,s1_,s2_,s3_,i64_w,i32_w]
             rfl
            refine pureA 8 (some 64) HT_.out ?_
            refine pureA 9 (some 65) HT_.out ?_
            refine pureA 10 (some 66) HT_.out ?_
            refine pureA 12 (some 68) HT_.out ?_
            refine takeA 11 (some 67) rfl rfl HT_.out HW_.out hHeld ?_ (by rintro w' ⟨s0,s1⟩;go_simp;with_reducible rfl)
            refine takeA 13 (some 69) rfl rfl HT_.out HW_.out hHeld ?_ (by rintro w' ⟨s0,s1⟩;go_simp;with_reducible rfl)
            refine pureA 14 (some 70) HT_.out ?_
            refine takeA 16 (some 72) rfl rfl HT_.out HW_.out hHeld ?_ (by rintro w' ⟨s0,s1⟩;go_simp;with_reducible rfl)
            refine one_ (i:=15) (N:=some 71) #[true,true,true,true,true,true,true,true,true,true,true,true,true,true,true,true,true,false,false,false,false,false,false,false,false,false,false,false,false,false,false,false,false,false,false,false,false,false,false,false,false,false,false,false] rfl rfl (one_of HT_.out (by kernel_rfl)) (by decide) (fun K hK=>?_)
            refine goes_ Tryz.func9 (by kernel_rfl) rfl #[.agg #[.string t612,.slice Ao12 t613.length co12],.int .i64 (t612.size : Int)] (by rfl) rfl rfl lens ?_
            with_reducible refine (impl_StreamFor.calls kj7 t612 _ _ t613 (t612.size : Int) t624 _ ?side1 ?side2 ?side3 A43.out).mono ?_
            (case side1=>exact puC (Kd.R_reads' HO_618001.out).2.2)
            (case side2=>exact (Kd.R_reads' HO_618001.out).2.1)
            (case side3=>first|(with_reducible exact HG.out)|exact GV_below HG.out (puM HB.out GE617.out))
            rintro e w63 ⟨rfl,hb⟩
            refine ⟨_,rfl,?_⟩
            have n0_:=m_ (Kd.R_below (puR HO_618001.out) hb)
            have n1_:=m_ (blk_below (g:=gb617) (o:=.cells #[.string t612,.slice Ao12 t613.length co12] 25 (0,0)) (puB BK617.out) hb)
            have n2_:=m_ (l5_ (puM HB.out GE617.out) hb)
            clear HO_618001
            clear BK617
            clear HB
            have HO_618001:=n0_
            have BK617:=n1_
            have HB:=n2_
            clear n0_ n1_ n2_
            (try clear hb)
            (try clear hb2)
            (try clear hk)
            (try clear hi)
            refine hK.out _ _ ⟨(c_ BK617.out 0).trans rfl,(c_ BK617.out 1).trans rfl⟩ (fun hHeld=>?_)
            clear hK K
            refine norm_ (a':=?_) ?_ ?_
            rotate_left
            ·show Act.put _ (some 71) _ = _
             simp only [Act.put,s1_,s2_,s3_,i64_w,i32_w]
             rfl
            refine one_ (i:=17) (N:=some 73) #[true,true,true,true,true,true,true,true,true,true,true,true,true,true,true,true,true,true,false,false,false,false,false,false,false,false,false,false,false,false,false,false,false,false,false,false,false,false,false,false,false,false,false,false] rfl rfl (one_of HT_.out (by kernel_rfl)) (by decide) (fun K hK=>?_)
            refine goes_ Tryz.func15 (by kernel_rfl) rfl #[.agg #[.string t612,.slice Ao12 t613.length co12]] (by rfl) rfl rfl lens ?_
            with_reducible refine (impl_StreamOut.calls kj7 t612 _ _ t613 t625 _ ?side1 ?side2 ?side3 A44.out).mono ?_
            (case side1=>exact puC (Kd.R_reads' HO_618001.out).2.2)
            (case side2=>exact (Kd.R_reads' HO_618001.out).2.1)
            (case side3=>first|(with_reducible exact HG.out)|exact GV_below HG.out (puM HB.out GE617.out))
            rintro e w64 ⟨rfl,hb⟩
            refine ⟨_,rfl,?_⟩
            have n0_:=m_ (Kd.R_below (puR HO_618001.out) hb)
            have n1_:=m_ (blk_below (g:=gb617) (o:=.cells #[.string t612,.slice Ao12 t613.length co12] 25 (0,0)) (puB BK617.out) hb)
            have n2_:=m_ (l5_ (puM HB.out GE617.out) hb)
            clear HO_618001
            clear BK617
            clear HB
            have HO_618001:=n0_
            have BK617:=n1_
            have HB:=n2_
            clear n0_ n1_ n2_
            (try clear hb)
            (try clear hb2)
            (try clear hk)
            (try clear hi)
            refine hK.out _ _ ⟨(c_ BK617.out 0).trans rfl,(c_ BK617.out 1).trans rfl⟩ (fun hHeld=>?_)
            clear hK K
            refine norm_ (a':=?_) ?_ ?_
            rotate_left
            ·show Act.put _ (some 73) _ = _
             simp only [Act.put,s1_,s2_,s3_,i64_w,i32_w]
             rfl
            refine pureA 18 (some 74) HT_.out ?_
            refine pureA 19 (some 75) HT_.out ?_
            refine pureA 20 (some 76) HT_.out ?_
            refine pureA 21 (some 77) HT_.out ?_
            refine pureA 22 (some 78) HT_.out ?_
            refine takeA 23 (some 79) rfl rfl HT_.out HW_.out hHeld ?_ (by rintro w' ⟨s0,s1⟩;go_simp;with_reducible rfl)
            refine one_ (i:=24) (N:=some 80) #[true,true,true,true,true,true,true,true,true,true,true,true,true,true,true,true,true,true,true,true,true,true,true,true,true,false,false,false,false,false,false,false,false,false,false,false,false,false,false,false,false,false,false,false] rfl rfl (one_of HT_.out (by kernel_rfl)) (by decide) (fun K hK=>?_)
            refine goes_ Tryz.func15 (by kernel_rfl) rfl #[.agg #[.string t612,.slice Ao12 t613.length co12]] (by rfl) rfl rfl lens ?_
            with_reducible refine (impl_StreamOut.calls kj7 t612 _ _ t613 t626 _ ?side1 ?side2 ?side3 A46.out).mono ?_
            (case side1=>exact puC (Kd.R_reads' HO_618001.out).2.2)
            (case side2=>exact (Kd.R_reads' HO_618001.out).2.1)
            (case side3=>first|(with_reducible exact HG.out)|exact GV_below HG.out (puM HB.out GE617.out))
            rintro e w65 ⟨rfl,hb⟩
            refine ⟨_,rfl,?_⟩
            have n0_:=m_ (Kd.R_below (puR HO_618001.out) hb)
            have n1_:=m_ (blk_below (g:=gb617) (o:=.cells #[.string t612,.slice Ao12 t613.length co12] 25 (0,0)) (puB BK617.out) hb)
            have n2_:=m_ (l5_ (puM HB.out GE617.out) hb)
            clear HO_618001
            clear BK617
            clear HB
            have HO_618001:=n0_
            have BK617:=n1_
            have HB:=n2_
            clear n0_ n1_ n2_
            (try clear hb)
            (try clear hb2)
            (try clear hk)
            (try clear hi)
            refine hK.out _ _ ⟨(c_ BK617.out 0).trans rfl,(c_ BK617.out 1).trans rfl⟩ (fun hHeld=>?_)
            clear hK K
            refine norm_ (a':=?_) ?_ ?_
            rotate_left
            ·show Act.put _ (some 80) _ = _
             simp only [Act.put,s1_,s2_,s3_,i64_w,i32_w]
             rfl
            refine pureA 25 (some 81) HT_.out ?_
            refine pureA 26 (some 82) HT_.out ?_
            refine pureA 27 (some 83) HT_.out ?_
            refine pureA 28 (some 84) HT_.out ?_
            refine pureU 29 (some 85) HT_.out ?_
            refine pureU 30 (some 86) HT_.out ?_
            refine pureU 31 (some 87) HT_.out ?_
            refine pureU 32 (some 88) HT_.out ?_
            refine pureU 33 (some 89) HT_.out ?_
            refine pureU 34 (some 90) HT_.out ?_
            refine pureU 35 (some 91) HT_.out ?_
            refine pureU 36 (some 92) HT_.out ?_
            refine pureU 37 (some 93) HT_.out ?_
            refine pureU 38 (some 94) HT_.out ?_
            refine pureU 39 (some 95) HT_.out ?_
            refine pureU 40 (some 96) HT_.out ?_
            refine pureU 41 (some 97) HT_.out ?_
            refine pureA 42 (some 98) HT_.out ?_
            refine pureA 43 (some 4) HT_.out ?_
            refine done_ (done_of HT_.out (by kernel_rfl)) ?_
            try go_wp2
            go_ret
            exact ⟨eqs,puM HB.out GE617.out⟩
          ·rw [if_neg c45] at H
           have c45b0 : (t624 == (t625.size : Int)) = false:=beq_eq_false_iff_ne.mpr c45
           have c45b1 : (t624 != (t625.size : Int)) = true:=bne_iff_ne.mpr c45
           obtain rfl:=Option.some.inj H
           try go_wp2
           have n0_:=m_ (Kd.R_drew HO_618001.out)
           have n1_:=m_ (b2_ BK617.out)
           have n2_:=m_ (l3_ HB.out)
           clear HO_618001
           clear BK617
           clear HB
           have HO_618001:=n0_
           have BK617:=n1_
           have HB:=n2_
           clear n0_ n1_ n2_
           refine start_ (n:=44) (S:=fun w'=>w'.cell? ⟨gb617,0,none⟩ = some (.string t612) ∧ w'.cell? ⟨gb617,1,none⟩ = some (.slice Ao12 t613.length co12)) (ds:=[]) #[false,false,false,false,false,false,false,false,false,false,false,false,false,false,false,false,false,false,false,false,false,false,false,false,false,false,false,false,false,false,false,false,false,false,false,false,false,false,false,false,false,false,false,false] (by kernel_rfl) rfl rfl ⟨(c_ BK617.out 0).trans rfl,(c_ BK617.out 1).trans rfl⟩ (fun hHeld=>?_);refine with_tabW laws_FnStreamFor.tab8 laws_FnStreamFor.bits8 (fun HT_ HW_=>?_)
           generalize wc.drew = w66 at HO_618001 BK617 HB hHeld ⊢
           refine takeA 0 (some 56) rfl rfl HT_.out HW_.out hHeld ?_ (by rintro w' ⟨s0,s1⟩;go_simp;with_reducible rfl)
           refine one_ (i:=1) (N:=some 57) #[true,true,false,false,false,false,false,false,false,false,false,false,false,false,false,false,false,false,false,false,false,false,false,false,false,false,false,false,false,false,false,false,false,false,false,false,false,false,false,false,false,false,false,false] rfl rfl (one_of HT_.out (by kernel_rfl)) (by decide) (fun K hK=>?_)
           refine goes_ Tryz.func9 (by kernel_rfl) rfl #[.agg #[.string t612,.slice Ao12 t613.length co12],.int .i64 0] (by rfl) rfl rfl lens ?_
           with_reducible refine (impl_StreamFor.calls kj7 t612 _ _ t613 0 t622 _ ?side1 ?side2 ?side3 A39.out).mono ?_
           (case side1=>exact puC (Kd.R_reads' HO_618001.out).2.2)
           (case side2=>exact (Kd.R_reads' HO_618001.out).2.1)
           (case side3=>first|(with_reducible exact HG.out)|exact GV_below HG.out (puM HB.out GE617.out))
           rintro e w67 ⟨rfl,hb⟩
           refine ⟨_,rfl,?_⟩
           have n0_:=m_ (Kd.R_below (puR HO_618001.out) hb)
           have n1_:=m_ (blk_below (g:=gb617) (o:=.cells #[.string t612,.slice Ao12 t613.length co12] 25 (0,0)) (puB BK617.out) hb)
           have n2_:=m_ (l5_ (puM HB.out GE617.out) hb)
           clear HO_618001
           clear BK617
           clear HB
           have HO_618001:=n0_
           have BK617:=n1_
           have HB:=n2_
           clear n0_ n1_ n2_
           (try clear hb)
           (try clear hb2)
           (try clear hk)
           (try clear hi)
           refine hK.out _ _ ⟨(c_ BK617.out 0).trans rfl,(c_ BK617.out 1).trans rfl⟩ (fun hHeld=>?_)
           clear hK K
           refine norm_ (a':=?_) ?_ ?_
           rotate_left
           ·show Act.put _ (some 57) _ = _
            simp only [Act.put,s1_,s2_,s3_,i64_w,i32_w]
            rfl
           refine pureA 2 (some 58) HT_.out ?_
           refine pureA 3 (some 59) HT_.out ?_
           refine pureA 5 (some 61) HT_.out ?_
           refine pureA 7 (some 63) HT_.out ?_
           refine takeA 4 (some 60) rfl rfl HT_.out HW_.out hHeld ?_ (by rintro w' ⟨s0,s1⟩;go_simp;with_reducible rfl)
           refine one_ (i:=6) (N:=some 62) #[true,true,true,true,true,true,true,true,false,false,false,false,false,false,false,false,false,false,false,false,false,false,false,false,false,false,false,false,false,false,false,false,false,false,false,false,false,false,false,false,false,false,false,false] rfl rfl (one_of HT_.out (by kernel_rfl)) (by decide) (fun K hK=>?_)
           refine goes_ Tryz.func9 (by kernel_rfl) rfl #[.agg #[.string t612,.slice Ao12 t613.length co12],.int .i64 ((l1.length : Int) % (wrap64 (t616 + 1)))] (by rfl) rfl rfl lens ?_
           with_reducible refine (impl_StreamFor.calls kj7 t612 _ _ t613 ((l1.length : Int) % (wrap64 (t616 + 1))) t623 _ ?side1 ?side2 ?side3 A41.out).mono ?_
           (case side1=>exact puC (Kd.R_reads' HO_618001.out).2.2)
           (case side2=>exact (Kd.R_reads' HO_618001.out).2.1)
           (case side3=>first|(with_reducible exact HG.out)|exact GV_below HG.out (puM HB.out GE617.out))
           rintro e w68 ⟨rfl,hb⟩
           refine ⟨_,rfl,?_⟩
           have n0_:=m_ (Kd.R_below (puR HO_618001.out) hb)
           have n1_:=m_ (blk_below (g:=gb617) (o:=.cells #[.string t612,.slice Ao12 t613.length co12] 25 (0,0)) (puB BK617.out) hb)
           have n2_:=m_ (l5_ (puM HB.out GE617.out) hb)
           clear HO_618001
           clear BK617
           clear HB
           have HO_618001:=n0_
           have BK617:=n1_
           have HB:=n2_
           clear n0_ n1_ n2_
           (try clear hb)
           (try clear hb2)
           (try clear hk)
           (try clear hi)
           refine hK.out _ _ ⟨(c_ BK617.out 0).trans rfl,(c_ BK617.out 1).trans rfl⟩ (fun hHeld=>?_)
           clear hK K
           refine norm_ (a':=?_) ?_ ?_
           rotate_left
           ·show Act.put _ (some 62) _ = _
            simp only [Act.put,s1_,s2_,s3_,i64_w,i32_w]
            rfl
           refine pureA 8 (some 64) HT_.out ?_
           refine pureA 9 (some 65) HT_.out ?_
           refine pureA 10 (some 66) HT_.out ?_
           refine pureA 12 (some 68) HT_.out ?_
           refine takeA 11 (some 67) rfl rfl HT_.out HW_.out hHeld ?_ (by rintro w' ⟨s0,s1⟩;go_simp;with_reducible rfl)
           refine takeA 13 (some 69) rfl rfl HT_.out HW_.out hHeld ?_ (by rintro w' ⟨s0,s1⟩;go_simp;with_reducible rfl)
           refine pureA 14 (some 70) HT_.out ?_
           refine takeA 16 (some 72) rfl rfl HT_.out HW_.out hHeld ?_ (by rintro w' ⟨s0,s1⟩;go_simp;with_reducible rfl)
           refine one_ (i:=15) (N:=some 71) #[true,true,true,true,true,true,true,true,true,true,true,true,true,true,true,true,true,false,false,false,false,false,false,false,false,false,false,false,false,false,false,false,false,false,false,false,false,false,false,false,false,false,false,false] rfl rfl (one_of HT_.out (by kernel_rfl)) (by decide) (fun K hK=>?_)
           refine goes_ Tryz.func9 (by kernel_rfl) rfl #[.agg #[.string t612,.slice Ao12 t613.length co12],.int .i64 (t612.size : Int)] (by rfl) rfl rfl lens ?_
           with_reducible refine (impl_StreamFor.calls kj7 t612 _ _ t613 (t612.size : Int) t624 _ ?side1 ?side2 ?side3 A43.out).mono ?_
           (case side1=>exact puC (Kd.R_reads' HO_618001.out).2.2)
           (case side2=>exact (Kd.R_reads' HO_618001.out).2.1)
           (case side3=>first|(with_reducible exact HG.out)|exact GV_below HG.out (puM HB.out GE617.out))
           rintro e w69 ⟨rfl,hb⟩
           refine ⟨_,rfl,?_⟩
           have n0_:=m_ (Kd.R_below (puR HO_618001.out) hb)
           have n1_:=m_ (blk_below (g:=gb617) (o:=.cells #[.string t612,.slice Ao12 t613.length co12] 25 (0,0)) (puB BK617.out) hb)
           have n2_:=m_ (l5_ (puM HB.out GE617.out) hb)
           clear HO_618001
           clear BK617
           clear HB
           have HO_618001:=n0_
           have BK617:=n1_
           have HB:=n2_
           clear n0_ n1_ n2_
           (try clear hb)
           (try clear hb2)
           (try clear hk)
           (try clear hi)
           refine hK.out _ _ ⟨(c_ BK617.out 0).trans rfl,(c_ BK617.out 1).trans rfl⟩ (fun hHeld=>?_)
           clear hK K
           refine norm_ (a':=?_) ?_ ?_
           rotate_left
           ·show Act.put _ (some 71) _ = _
            simp only [Act.put,s1_,s2_,s3_,i64_w,i32_w]
            rfl
           refine one_ (i:=17) (N:=some 73) #[true,true,true,true,true,true,true,true,true,true,true,true,true,true,true,true,true,true,false,false,false,false,false,false,false,false,false,false,false,false,false,false,false,false,false,false,false,false,false,false,false,false,false,false] rfl rfl (one_of HT_.out (by kernel_rfl)) (by decide) (fun K hK=>?_)
           refine goes_ Tryz.func15 (by kernel_rfl) rfl #[.agg #[.string t612,.slice Ao12 t613.length co12]] (by rfl) rfl rfl lens ?_
           with_reducible refine (impl_StreamOut.calls kj7 t612 _ _ t613 t625 _ ?side1 ?side2 ?side3 A44.out).mono ?_
           (case side1=>exact puC (Kd.R_reads' HO_618001.out).2.2)
           (case side2=>exact (Kd.R_reads' HO_618001.out).2.1)
           (case side3=>first|(with_reducible exact HG.out)|exact GV_below HG.out (puM HB.out GE617.out))
           rintro e w70 ⟨rfl,hb⟩
           refine ⟨_,rfl,?_⟩
           have n0_:=m_ (Kd.R_below (puR HO_618001.out) hb)
           have n1_:=m_ (blk_below (g:=gb617) (o:=.cells #[.string t612,.slice Ao12 t613.length co12] 25 (0,0)) (puB BK617.out) hb)
           have n2_:=m_ (l5_ (puM HB.out GE617.out) hb)
           clear HO_618001
           clear BK617
           clear HB
           have HO_618001:=n0_
           have BK617:=n1_
           have HB:=n2_
           clear n0_ n1_ n2_
           (try clear hb)
           (try clear hb2)
           (try clear hk)
           (try clear hi)
           refine hK.out _ _ ⟨(c_ BK617.out 0).trans rfl,(c_ BK617.out 1).trans rfl⟩ (fun hHeld=>?_)
           clear hK K
           refine norm_ (a':=?_) ?_ ?_
           rotate_left
           ·show Act.put _ (some 73) _ = _
            simp only [Act.put,s1_,s2_,s3_,i64_w,i32_w]
            rfl
           refine pureA 18 (some 74) HT_.out ?_
           refine pureA 19 (some 75) HT_.out ?_
           refine pureA 20 (some 76) HT_.out ?_
           refine pureA 21 (some 77) HT_.out ?_
           refine pureU 22 (some 78) HT_.out ?_
           refine pureU 23 (some 79) HT_.out ?_
           refine pureU 24 (some 80) HT_.out ?_
           refine pureU 25 (some 81) HT_.out ?_
           refine pureU 26 (some 82) HT_.out ?_
           refine pureA 27 (some 83) HT_.out ?_
           refine pureA 28 (some 84) HT_.out ?_
           refine pureU 29 (some 85) HT_.out ?_
           refine pureU 30 (some 86) HT_.out ?_
           refine pureU 31 (some 87) HT_.out ?_
           refine pureU 32 (some 88) HT_.out ?_
           refine pureU 33 (some 89) HT_.out ?_
           refine pureU 34 (some 90) HT_.out ?_
           refine pureU 35 (some 91) HT_.out ?_
           refine pureU 36 (some 92) HT_.out ?_
           refine pureU 37 (some 93) HT_.out ?_
           refine pureU 38 (some 94) HT_.out ?_
           refine pureU 39 (some 95) HT_.out ?_
           refine pureU 40 (some 96) HT_.out ?_
           refine pureU 41 (some 97) HT_.out ?_
           refine pureA 42 (some 98) HT_.out ?_
           refine pureA 43 (some 4) HT_.out ?_
           refine done_ (done_of HT_.out (by kernel_rfl)) ?_
           try go_wp2
           go_ret
           exact ⟨eqs,puM HB.out GE617.out⟩
         ·rw [if_neg c42] at H
          have c42b0 : decide (t623 ≤ t618) = false:=decide_eq_false c42
          clear c42
          obtain rfl:=Option.some.inj H
          try go_wp2
          have n0_:=m_ (Kd.R_drew HO_618001.out)
          have n1_:=m_ (b2_ BK617.out)
          have n2_:=m_ (l3_ HB.out)
          clear HO_618001
          clear BK617
          clear HB
          have HO_618001:=n0_
          have BK617:=n1_
          have HB:=n2_
          clear n0_ n1_ n2_
          refine start_ (n:=44) (S:=fun w'=>w'.cell? ⟨gb617,0,none⟩ = some (.string t612) ∧ w'.cell? ⟨gb617,1,none⟩ = some (.slice Ao12 t613.length co12)) (ds:=[]) #[false,false,false,false,false,false,false,false,false,false,false,false,false,false,false,false,false,false,false,false,false,false,false,false,false,false,false,false,false,false,false,false,false,false,false,false,false,false,false,false,false,false,false,false] (by kernel_rfl) rfl rfl ⟨(c_ BK617.out 0).trans rfl,(c_ BK617.out 1).trans rfl⟩ (fun hHeld=>?_);refine with_tabW laws_FnStreamFor.tab8 laws_FnStreamFor.bits8 (fun HT_ HW_=>?_)
          generalize wc.drew = w71 at HO_618001 BK617 HB hHeld ⊢
          refine takeA 0 (some 56) rfl rfl HT_.out HW_.out hHeld ?_ (by rintro w' ⟨s0,s1⟩;go_simp;with_reducible rfl)
          refine one_ (i:=1) (N:=some 57) #[true,true,false,false,false,false,false,false,false,false,false,false,false,false,false,false,false,false,false,false,false,false,false,false,false,false,false,false,false,false,false,false,false,false,false,false,false,false,false,false,false,false,false,false] rfl rfl (one_of HT_.out (by kernel_rfl)) (by decide) (fun K hK=>?_)
          refine goes_ Tryz.func9 (by kernel_rfl) rfl #[.agg #[.string t612,.slice Ao12 t613.length co12],.int .i64 0] (by rfl) rfl rfl lens ?_
          with_reducible refine (impl_StreamFor.calls kj7 t612 _ _ t613 0 t622 _ ?side1 ?side2 ?side3 A39.out).mono ?_
          (case side1=>exact puC (Kd.R_reads' HO_618001.out).2.2)
          (case side2=>exact (Kd.R_reads' HO_618001.out).2.1)
          (case side3=>first|(with_reducible exact HG.out)|exact GV_below HG.out (puM HB.out GE617.out))
          rintro e w72 ⟨rfl,hb⟩
          refine ⟨_,rfl,?_⟩
          have n0_:=m_ (Kd.R_below (puR HO_618001.out) hb)
          have n1_:=m_ (blk_below (g:=gb617) (o:=.cells #[.string t612,.slice Ao12 t613.length co12] 25 (0,0)) (puB BK617.out) hb)
          have n2_:=m_ (l5_ (puM HB.out GE617.out) hb)
          clear HO_618001
          clear BK617
          clear HB
          have HO_618001:=n0_
          have BK617:=n1_
          have HB:=n2_
          clear n0_ n1_ n2_
          (try clear hb)
          (try clear hb2)
          (try clear hk)
          (try clear hi)
          refine hK.out _ _ ⟨(c_ BK617.out 0).trans rfl,(c_ BK617.out 1).trans rfl⟩ (fun hHeld=>?_)
          clear hK K
          refine norm_ (a':=?_) ?_ ?_
          rotate_left
          ·show Act.put _ (some 57) _ = _
           simp only [Act.put,s1_,s2_,s3_,i64_w,i32_w]
           rfl
          refine pureA 2 (some 58) HT_.out ?_
          refine pureA 3 (some 59) HT_.out ?_
          refine pureA 5 (some 61) HT_.out ?_
          refine pureA 7 (some 63) HT_.out ?_
          refine takeA 4 (some 60) rfl rfl HT_.out HW_.out hHeld ?_ (by rintro w' ⟨s0,s1⟩;go_simp;with_reducible rfl)
          refine one_ (i:=6) (N:=some 62) #[true,true,true,true,true,true,true,true,false,false,false,false,false,false,false,false,false,false,false,false,false,false,false,false,false,false,false,false,false,false,false,false,false,false,false,false,false,false,false,false,false,false,false,false] rfl rfl (one_of HT_.out (by kernel_rfl)) (by decide) (fun K hK=>?_)
          refine goes_ Tryz.func9 (by kernel_rfl) rfl #[.agg #[.string t612,.slice Ao12 t613.length co12],.int .i64 ((l1.length : Int) % (wrap64 (t616 + 1)))] (by rfl) rfl rfl lens ?_
          with_reducible refine (impl_StreamFor.calls kj7 t612 _ _ t613 ((l1.length : Int) % (wrap64 (t616 + 1))) t623 _ ?side1 ?side2 ?side3 A41.out).mono ?_
          (case side1=>exact puC (Kd.R_reads' HO_618001.out).2.2)
          (case side2=>exact (Kd.R_reads' HO_618001.out).2.1)
          (case side3=>first|(with_reducible exact HG.out)|exact GV_below HG.out (puM HB.out GE617.out))
          rintro e w73 ⟨rfl,hb⟩
          refine ⟨_,rfl,?_⟩
          have n0_:=m_ (Kd.R_below (puR HO_618001.out) hb)
          have n1_:=m_ (blk_below (g:=gb617) (o:=.cells #[.string t612,.slice Ao12 t613.length co12] 25 (0,0)) (puB BK617.out) hb)
          have n2_:=m_ (l5_ (puM HB.out GE617.out) hb)
          clear HO_618001
          clear BK617
          clear HB
          have HO_618001:=n0_
          have BK617:=n1_
          have HB:=n2_
          clear n0_ n1_ n2_
          (try clear hb)
          (try clear hb2)
          (try clear hk)
          (try clear hi)
          refine hK.out _ _ ⟨(c_ BK617.out 0).trans rfl,(c_ BK617.out 1).trans rfl⟩ (fun hHeld=>?_)
          clear hK K
          refine norm_ (a':=?_) ?_ ?_
          rotate_left
          ·show Act.put _ (some 62) _ = _
           simp only [Act.put,s1_,s2_,s3_,i64_w,i32_w]
           rfl
          refine pureA 8 (some 64) HT_.out ?_
          refine pureA 9 (some 65) HT_.out ?_
          refine pureA 10 (some 66) HT_.out ?_
          refine pureU 11 (some 67) HT_.out ?_
          refine pureU 12 (some 68) HT_.out ?_
          refine pureU 13 (some 69) HT_.out ?_
          refine pureU 14 (some 70) HT_.out ?_
          refine pureU 15 (some 71) HT_.out ?_
          refine pureU 16 (some 72) HT_.out ?_
          refine pureU 17 (some 73) HT_.out ?_
          refine pureU 18 (some 74) HT_.out ?_
          refine pureU 19 (some 75) HT_.out ?_
          refine pureA 20 (some 76) HT_.out ?_
          refine pureA 21 (some 77) HT_.out ?_
          refine pureU 22 (some 78) HT_.out ?_
          refine pureU 23 (some 79) HT_.out ?_
          refine pureU 24 (some 80) HT_.out ?_
          refine pureU 25 (some 81) HT_.out ?_
          refine pureU 26 (some 82) HT_.out ?_
          refine pureA 27 (some 83) HT_.out ?_
          refine pureA 28 (some 84) HT_.out ?_
          refine pureU 29 (some 85) HT_.out ?_
          refine pureU 30 (some 86) HT_.out ?_
          refine pureU 31 (some 87) HT_.out ?_
          refine pureU 32 (some 88) HT_.out ?_
          refine pureU 33 (some 89) HT_.out ?_
          refine pureU 34 (some 90) HT_.out ?_
          refine pureU 35 (some 91) HT_.out ?_
          refine pureU 36 (some 92) HT_.out ?_
          refine pureU 37 (some 93) HT_.out ?_
          refine pureU 38 (some 94) HT_.out ?_
          refine pureU 39 (some 95) HT_.out ?_
          refine pureU 40 (some 96) HT_.out ?_
          refine pureU 41 (some 97) HT_.out ?_
          refine pureA 42 (some 98) HT_.out ?_
          refine pureA 43 (some 4) HT_.out ?_
          refine done_ (done_of HT_.out (by kernel_rfl)) ?_
          try go_wp2
          go_ret
          exact ⟨eqs,puM HB.out GE617.out⟩
        ·rw [if_neg c40] at H
         have c40b0 : (t622 == 0) = false:=beq_eq_false_iff_ne.mpr c40
         have c40b1 : (t622 != 0) = true:=bne_iff_ne.mpr c40
         obtain rfl:=Option.some.inj H
         try go_wp2
         have n0_:=m_ (Kd.R_drew HO_618001.out)
         have n1_:=m_ (b2_ BK617.out)
         have n2_:=m_ (l3_ HB.out)
         clear HO_618001
         clear BK617
         clear HB
         have HO_618001:=n0_
         have BK617:=n1_
         have HB:=n2_
         clear n0_ n1_ n2_
         refine start_ (n:=44) (S:=fun w'=>w'.cell? ⟨gb617,0,none⟩ = some (.string t612) ∧ w'.cell? ⟨gb617,1,none⟩ = some (.slice Ao12 t613.length co12)) (ds:=[]) #[false,false,false,false,false,false,false,false,false,false,false,false,false,false,false,false,false,false,false,false,false,false,false,false,false,false,false,false,false,false,false,false,false,false,false,false,false,false,false,false,false,false,false,false] (by kernel_rfl) rfl rfl ⟨(c_ BK617.out 0).trans rfl,(c_ BK617.out 1).trans rfl⟩ (fun hHeld=>?_);refine with_tabW laws_FnStreamFor.tab8 laws_FnStreamFor.bits8 (fun HT_ HW_=>?_)
         generalize wc.drew = w74 at HO_618001 BK617 HB hHeld ⊢
         refine takeA 0 (some 56) rfl rfl HT_.out HW_.out hHeld ?_ (by rintro w' ⟨s0,s1⟩;go_simp;with_reducible rfl)
         refine one_ (i:=1) (N:=some 57) #[true,true,false,false,false,false,false,false,false,false,false,false,false,false,false,false,false,false,false,false,false,false,false,false,false,false,false,false,false,false,false,false,false,false,false,false,false,false,false,false,false,false,false,false] rfl rfl (one_of HT_.out (by kernel_rfl)) (by decide) (fun K hK=>?_)
         refine goes_ Tryz.func9 (by kernel_rfl) rfl #[.agg #[.string t612,.slice Ao12 t613.length co12],.int .i64 0] (by rfl) rfl rfl lens ?_
         with_reducible refine (impl_StreamFor.calls kj7 t612 _ _ t613 0 t622 _ ?side1 ?side2 ?side3 A39.out).mono ?_
         (case side1=>exact puC (Kd.R_reads' HO_618001.out).2.2)
         (case side2=>exact (Kd.R_reads' HO_618001.out).2.1)
         (case side3=>first|(with_reducible exact HG.out)|exact GV_below HG.out (puM HB.out GE617.out))
         rintro e w75 ⟨rfl,hb⟩
         refine ⟨_,rfl,?_⟩
         have n0_:=m_ (Kd.R_below (puR HO_618001.out) hb)
         have n1_:=m_ (blk_below (g:=gb617) (o:=.cells #[.string t612,.slice Ao12 t613.length co12] 25 (0,0)) (puB BK617.out) hb)
         have n2_:=m_ (l5_ (puM HB.out GE617.out) hb)
         clear HO_618001
         clear BK617
         clear HB
         have HO_618001:=n0_
         have BK617:=n1_
         have HB:=n2_
         clear n0_ n1_ n2_
         (try clear hb)
         (try clear hb2)
         (try clear hk)
         (try clear hi)
         refine hK.out _ _ ⟨(c_ BK617.out 0).trans rfl,(c_ BK617.out 1).trans rfl⟩ (fun hHeld=>?_)
         clear hK K
         refine norm_ (a':=?_) ?_ ?_
         rotate_left
         ·show Act.put _ (some 57) _ = _
          simp only [Act.put,s1_,s2_,s3_,i64_w,i32_w]
          rfl
         refine pureA 2 (some 58) HT_.out ?_
         refine pureA 3 (some 59) HT_.out ?_
         refine pureU 4 (some 60) HT_.out ?_
         refine pureU 5 (some 61) HT_.out ?_
         refine pureU 6 (some 62) HT_.out ?_
         refine pureU 7 (some 63) HT_.out ?_
         refine pureU 8 (some 64) HT_.out ?_
         refine pureA 9 (some 65) HT_.out ?_
         refine pureA 10 (some 66) HT_.out ?_
         refine pureU 11 (some 67) HT_.out ?_
         refine pureU 12 (some 68) HT_.out ?_
         refine pureU 13 (some 69) HT_.out ?_
         refine pureU 14 (some 70) HT_.out ?_
         refine pureU 15 (some 71) HT_.out ?_
         refine pureU 16 (some 72) HT_.out ?_
         refine pureU 17 (some 73) HT_.out ?_
         refine pureU 18 (some 74) HT_.out ?_
         refine pureU 19 (some 75) HT_.out ?_
         refine pureA 20 (some 76) HT_.out ?_
         refine pureA 21 (some 77) HT_.out ?_
         refine pureU 22 (some 78) HT_.out ?_
         refine pureU 23 (some 79) HT_.out ?_
         refine pureU 24 (some 80) HT_.out ?_
         refine pureU 25 (some 81) HT_.out ?_
         refine pureU 26 (some 82) HT_.out ?_
         refine pureA 27 (some 83) HT_.out ?_
         refine pureA 28 (some 84) HT_.out ?_
         refine pureU 29 (some 85) HT_.out ?_
         refine pureU 30 (some 86) HT_.out ?_
         refine pureU 31 (some 87) HT_.out ?_
         refine pureU 32 (some 88) HT_.out ?_
         refine pureU 33 (some 89) HT_.out ?_
         refine pureU 34 (some 90) HT_.out ?_
         refine pureU 35 (some 91) HT_.out ?_
         refine pureU 36 (some 92) HT_.out ?_
         refine pureU 37 (some 93) HT_.out ?_
         refine pureU 38 (some 94) HT_.out ?_
         refine pureU 39 (some 95) HT_.out ?_
         refine pureU 40 (some 96) HT_.out ?_
         refine pureU 41 (some 97) HT_.out ?_
         refine pureA 42 (some 98) HT_.out ?_
         refine pureA 43 (some 4) HT_.out ?_
         refine done_ (done_of HT_.out (by kernel_rfl)) ?_
         try go_wp2
         go_ret
         exact ⟨eqs,puM HB.out GE617.out⟩

/-- THE ONE PURE STATEMENT of laws_FnStreamFor: yours. -/
def laws_FnStreamFor.Pure : Prop := ∀ (l0 : List Int) (l1 : List Int), l0.length ≤ maxLen → l0.length * 1 ≤ 140737488351232 → (∀ x ∈ l0, (Lit.int .u8 x).wf = true) → l1.length ≤ maxLen → l1.length * 1 ≤ 140737488351232 → (∀ x ∈ l1, (Lit.int .u8 x).wf = true) → ∃ k, laws_FnStreamFor.f k l0 l1 = some true
theorem laws_FnStreamFor.walk (P : laws_FnStreamFor.Pure) (a0 : Option Addr) (len0 cap0 : Nat) (z0 : List Int) (a1 : Option Addr) (len1 cap1 : Nat) (z1 : List Int) (w : World) (hG : GV w) (w0 : (a0 = none ∧ len0 = 0 ∧ cap0 = 0 ∧ z0 = []) ∨ ∃ x, a0 = some x ∧ len0 ≤ cap0 ∧ cap0 ≤ maxLen ∧ z0.length = cap0 ∧ (∀ i, i < z0.length → w.cell? (x.add i) = some (.int .u8 (z0.getD i 0))) ∧ ∀ n ∈ z0, (Lit.int .u8 n).wf = true) (y0 : len0 * 1 ≤ 140737488351232) (w1 : (a1 = none ∧ len1 = 0 ∧ cap1 = 0 ∧ z1 = []) ∨ ∃ x, a1 = some x ∧ len1 ≤ cap1 ∧ cap1 ≤ maxLen ∧ z1.length = cap1 ∧ (∀ i, i < z1.length → w.cell? (x.add i) = some (.int .u8 (z1.getD i 0))) ∧ ∀ n ∈ z1, (Lit.int .u8 n).wf = true) (y1 : len1 * 1 ≤ 140737488351232) :
  Calls Tryz.prog 7 #[.slice a0 len0 cap0,.slice a1 len1 cap1] w fun e w'=>e = .returned (.bool true) ∧ Below w.heap.size w w':=by
 obtain ⟨l0,rfl,hr0,hm0,hw0,hc0⟩:=ReadsInt.ofRowC w0
 obtain ⟨l1,rfl,hr1,hm1,hw1,hc1⟩:=ReadsInt.ofRowC w1
 obtain ⟨k,h⟩:=P l0 l1 hm0 y0 hw0 hm1 y1 hw1
 refine (laws_FnStreamFor.calls k _ _ l0 _ _ l1 true w (Kd.C_of_reads (d:=(0 : Int)) (h1:=fun _=>rfl) hr0) hc0 (Kd.C_of_reads (d:=(0 : Int)) (h1:=fun _=>rfl) hr1) hc1 hG h).mono ?_
 rintro e w' ⟨rfl,hd⟩
 exact ⟨rfl,hd⟩

end Go.Proofs.YtkcjmmhleepjeaaGreatDoor.A
