-- Printed by myprint.py (wip/tools) out of the translation. Not trusted: Lean checks it.
import Derived.Test.YtkcjmmhleepjeaaGreatDoorAx0
import Derived.Test.YtkcjmmhleepjeaaGreatDoorAx16
import Derived.Test.YtkcjmmhleepjeaaGreatDoorAx18
import Derived.Test.YtkcjmmhleepjeaaGreatDoorAx20
import Derived.Test.YtkcjmmhleepjeaaGreatDoorAx21
import Derived.Test.YtkcjmmhleepjeaaGreatDoorAx23
import Derived.Test.YtkcjmmhleepjeaaGreatDoorAx26
namespace Go.Proofs.YtkcjmmhleepjeaaGreatDoor.A
open Go.RowKit Go.Proofs.YtkcjmmhleepjeaaGreatDoorW.PrintWords Go.Proofs.YtkcjmmhleepjeaaGreatDoorW.PrintLast Go.Proofs.YtkcjmmhleepjeaaGreatDoorW.PrintMore
attribute [local go_sem] max2_int min2_int max_two min_two max_three min_three max_four min_four
set_option linter.unusedVariables false
set_option linter.unusedSimpArgs false

/-! ### laws_FnStreamBack: function 5 -/
mutual
def laws_FnStreamBack.j0 : Nat → List Int → List Int → Bool → Option (Bool)
 | 0, _, _, _ => none
 | k + 1, x0, x1, x17 => if x17 = true then (some true) else ((spec_DrawStreamBack.f k x0).bind fun bt549 => ((impl_StreamBack.f k bt549.1 bt549.2.1 bt549.2.2).bind fun t555 => ((spec_StreamBack.f k bt549.1 bt549.2.1 bt549.2.2).bind fun t556 => (if t555 = t556 then ((spec_StreamOk.f k bt549.1 bt549.2.1).bind fun t557 => (if t557 = true then (if bt549.2.2 < 0 then (laws_FnStreamBack.j1 k x1 bt549.2.2 t555 true bt549.1 bt549.2.1) else ((impl_StreamOut.f k bt549.1 bt549.2.1).bind fun t558 => (laws_FnStreamBack.j1 k x1 bt549.2.2 t555 (decide (bt549.2.2 > (t558.size : Int))) bt549.1 bt549.2.1))) else (laws_FnStreamBack.j1 k x1 bt549.2.2 t555 true bt549.1 bt549.2.1))) else (laws_FnStreamBack.j1 k x1 bt549.2.2 t555 true bt549.1 bt549.2.1)))))
def laws_FnStreamBack.j1 : Nat → List Int → Int → Int → Bool → ByteArray → List (S31) → Option (Bool)
 | 0, _, _, _, _, _, _ => none
 | k + 1, x1, x6, x7, x46, x555000, x555001 => if x46 = true then ((spec_StreamBack.f k x555000 x555001 x6).bind fun t559 => (some (x7 == t559))) else (if (wrap64 (x6 + 1)) = 0 then (none) else ((impl_StreamOut.f k x555000 x555001).bind fun t560 => ((impl_StreamFor.f k x555000 x555001 x7).bind fun t561 => (if t561 ≤ x6 then ((impl_StreamBack.f k x555000 x555001 ((x1.length : Int) % (wrap64 (x6 + 1)))).bind fun t562 => (if t562 ≤ x7 then ((impl_StreamBack.f k x555000 x555001 (t560.size : Int)).bind fun t563 => ((impl_TextHeld.f k x555000).bind fun t564 => (if t563 = (wrap64 ((x555000.size : Int) - t564)) then ((impl_StreamBack.f k x555000 x555001 0).bind fun t565 => (some (t565 == 0))) else (some false)))) else (some false))) else (some false)))))
end
def laws_FnStreamBack.f (k : Nat) (l0 : List Int) (l1 : List Int) : Option (Bool) := if (l0.length : Int) > 1048576 then (laws_FnStreamBack.j0 k l0 l1 true) else (laws_FnStreamBack.j0 k l0 l1 (decide ((l1.length : Int) > 1048576)))
theorem laws_FnStreamBack.mono_l : ∀ k, (∀ y0 y1 y2, LeO (laws_FnStreamBack.j0 k y0 y1 y2) (laws_FnStreamBack.j0 (k + 1) y0 y1 y2)) ∧ (∀ y0 y1 y2 y3 y4 y5, LeO (laws_FnStreamBack.j1 k y0 y1 y2 y3 y4 y5) (laws_FnStreamBack.j1 (k + 1) y0 y1 y2 y3 y4 y5))
 | 0 => ⟨fun _ _ _ r h => by simp [laws_FnStreamBack.j0] at h, fun _ _ _ _ _ _ r h => by simp [laws_FnStreamBack.j1] at h⟩
 | k + 1 => by
  obtain ⟨ih0,ih1⟩:=laws_FnStreamBack.mono_l k
  refine ⟨?_,?_⟩
  ·intro y0 y1 y2
   unfold laws_FnStreamBack.j0
   exact leo9 ih0 ih1 impl_StreamBack.mono impl_StreamFor.mono impl_StreamOut.mono impl_TextHeld.mono spec_DrawStreamBack.mono spec_StreamBack.mono spec_StreamOk.mono
  ·intro y0 y1 y2 y3 y4 y5
   unfold laws_FnStreamBack.j1
   exact leo9 ih0 ih1 impl_StreamBack.mono impl_StreamFor.mono impl_StreamOut.mono impl_TextHeld.mono spec_DrawStreamBack.mono spec_StreamBack.mono spec_StreamOk.mono
theorem laws_FnStreamBack.mono : ∀ a0 a1 k, LeO (laws_FnStreamBack.f k a0 a1) (laws_FnStreamBack.f (k + 1) a0 a1) := by
 intro a0 a1 k
 obtain ⟨ih0,ih1⟩:=laws_FnStreamBack.mono_l k
 unfold laws_FnStreamBack.f
 exact leo9 ih0 ih1 impl_StreamBack.mono impl_StreamFor.mono impl_StreamOut.mono impl_TextHeld.mono spec_DrawStreamBack.mono spec_StreamBack.mono spec_StreamOk.mono
def laws_FnStreamBack.T9 : Bool × List (List Nat × List Nat) := (true, [([], []), ([], []), ([0, 1], [0, 1]), ([], []), ([2, 3], [2, 3]), ([4, 2], [4]), ([5], [5]), ([5], [5]), ([6, 7, 5, 5], [5, 6, 7]), ([5], [5]), ([8, 9, 5], [5, 8, 9]), ([5, 10], [5, 10]), ([11, 8], [11]), ([12], [12]), ([12], [12]), ([13, 14, 12, 12], [12, 13, 14]), ([12], [12]), ([16, 12], [12, 16]), ([17, 12], [12, 17]), ([12], [12]), ([19, 12], [12, 19]), ([20, 15, 12], [12, 20]), ([18, 21, 12], [12, 18, 21]), ([15, 22, 12], [12, 15, 22]), ([12, 23], [12, 23]), ([24, 21], [24]), ([25], [25]), ([26, 25, 25], [25, 26]), ([27, 25], [25, 27]), ([25, 28], [25, 28]), ([29, 27, 0, 1, 2, 3, 4, 5, 6, 7, 8, 9, 10, 11, 12, 13, 14, 15, 16, 17, 18, 19, 20, 21, 22, 23, 24, 25, 26, 27, 28, 29], [29])])
def laws_FnStreamBack.B9 : List Nat := [0, 0, 3, 0, 15, 31, 63, 63, 255, 63, 1023, 2047, 4095, 8191, 8191, 32767, 8191, 73727, 204799, 8191, 532479, 1638399, 4194303, 8388607, 16777215, 33554431, 67108863, 134217727, 268435455, 536870911, 1073741823]
theorem laws_FnStreamBack.tab9 : rtab .any (opsOf Tryz.f5 9) = laws_FnStreamBack.T9 := by kernel_rfl
theorem laws_FnStreamBack.bits9 : waitsOk laws_FnStreamBack.T9.2 laws_FnStreamBack.B9 = true := by kernel_rfl
set_option maxHeartbeats 8000000 in
set_option maxRecDepth 100000 in
theorem laws_FnStreamBack.calls (k : Nat) (A0 : Option Addr) (c0 : Nat) (l0 : List Int) (A1 : Option Addr) (c1 : Nat) (l1 : List Int) (r : Bool) (w : World) (hr0 : Kd.C (Kd.int .u8) w A0 l0.length l0) (hc0 : l0.length ≤ c0) (hr1 : Kd.C (Kd.int .u8) w A1 l1.length l1) (hc1 : l1.length ≤ c1) (hG : GV w) (h : laws_FnStreamBack.f k l0 l1 = some r) :
  Calls Tryz.prog 5 #[.slice A0 l0.length c0,.slice A1 l1.length c1] w fun e w'=>e = .returned (.bool r) ∧ Below w.heap.size w w':=by
 have hu25:=Tryz.underlying25
 have HG:=m_ hG
 clear hG
 have HR0:=m_ hr0
 have HC0:=m_ hc0
 clear hr0 hc0
 have HR1:=m_ hr1
 have HC1:=m_ hc1
 clear hr1 hc1
 have HB:=m_ (Below.refl w.heap.size w)
 have H : (if (l0.length : Int) > 1048576 then (laws_FnStreamBack.j0 k l0 l1 true) else (laws_FnStreamBack.j0 k l0 l1 (decide ((l1.length : Int) > 1048576)))) = some r:=h
 clear h
 have HC3:=m_ H
 clear H
 go_enter Tryz.func5,Tryz.ntmps5
 go_upto_region 1 with (fail)
 go_cut [17] (fun v17 wc=>∃ (kq : Nat) (x17_2 : Bool),v17 = .bool x17_2 ∧ Aside0 (laws_FnStreamBack.j0 kq l0 l1 x17_2 = some r) ∧ Aside0 (kq ≤ k) ∧ Aside0 (Below w.heap.size w wc))
 case first =>
  have H:=HC3.out
  clear HC3
  by_cases c4 : (l0.length : Int) > 1048576
  ·rw [if_pos c4] at H
   have c4b0 : decide (1048576 < (l0.length : Int)) = true:=decide_eq_true c4
   have c4b1 : decide (1048576 < l0.length) = true:=decide_eq_true (by omega)
   clear c4
   (first|rw [c4b0]|(simp only [i64_w,i32_w];rw [c4b0])|skip)
   have H':=m_ H
   clear H
   go_wp2
   go_meet
   case rel=>exact ⟨_,(true),(by first|rfl|(simp;done)|(simp [*];done)),H',⟨by first|omega|exact Nat.le_refl _⟩,⟨puL HB.out⟩⟩
  ·rw [if_neg c4] at H
   have c4b0 : decide (1048576 < (l0.length : Int)) = false:=decide_eq_false c4
   have c4b1 : decide (1048576 < l0.length) = false:=decide_eq_false (by omega)
   clear c4
   (first|rw [c4b0]|(simp only [i64_w,i32_w];rw [c4b0])|skip)
   have H':=m_ H
   clear H
   go_wp2
   go_meet
   case rel=>exact ⟨_,(decide ((l1.length : Int) > 1048576)),(by first|rfl|(simp;done)|(simp [*];done)),H',⟨by first|omega|exact Nat.le_refl _⟩,⟨puL HB.out⟩⟩
 case rest =>
  clear HC3
  try clear c1
  try clear p2
  try clear c4
  try clear c4b0
  try clear c4b1
  obtain ⟨kq,x17_2,rfl,HA,HJ2,HB⟩:=hcut
  cases kq with
  | zero => exact absurd HA.out (by simp [laws_FnStreamBack.j0])
  | succ kj2 =>
   have H:=HA.out
   clear HA
   simp only [laws_FnStreamBack.j0] at H
   by_cases c5 : x17_2 = true
   ·subst c5
    replace H:=ifp H rfl
    obtain rfl:=Option.some.inj H
    go_wp2
    go_ret
    exact ⟨eqs,puL HB.out⟩
   ·replace c5:=Bool.eq_false_iff.mpr c5
    subst c5
    replace H:=ifn H
    replace H:=Option.bind_eq_some_iff.mp H
    obtain ⟨⟨t549,t550,t553⟩,A60,H⟩:=H
    replace H : ((impl_StreamBack.f kj2 t549 t550 t553).bind fun t555=>((spec_StreamBack.f kj2 t549 t550 t553).bind fun t556=>(if t555 = t556 then ((spec_StreamOk.f kj2 t549 t550).bind fun t557=>(if t557 = true then (if t553 < 0 then (laws_FnStreamBack.j1 kj2 l1 t553 t555 true t549 t550) else ((impl_StreamOut.f kj2 t549 t550).bind fun t558=>(laws_FnStreamBack.j1 kj2 l1 t553 t555 (decide (t553 > (t558.size : Int))) t549 t550))) else (laws_FnStreamBack.j1 kj2 l1 t553 t555 true t549 t550))) else (laws_FnStreamBack.j1 kj2 l1 t553 t555 true t549 t550)))) = some r:=H
    have A6:=m_ A60
    clear A60
    replace H:=Option.bind_eq_some_iff.mp H
    obtain ⟨t555,A70,H⟩:=H
    have A7:=m_ A70
    clear A70
    have HC8:=m_ H
    clear H
    go_upto_region 5 with (first|((with_reducible refine gate_callee (f:=13) rfl ?_);refine goesL_ (some 20) rfl rfl Tryz.func13 (by kernel_rfl) rfl #[.slice A0 l0.length c0] rfl lens ?_;(with_reducible refine (spec_DrawStreamBack.calls kj2 _ _ l0 t549 t550 t553 _ ?side1 ?side2 A6.out).mono ?_);(case side1=>exact puC (Kd.C_below HR0.out HB.out));(case side2=>exact HC0.out);rintro e w9 ⟨v551,rfl,ho0,hb⟩;refine ⟨_,rfl,?_⟩;have n0_:=m_ (Kd.R_lower ho0 (l6_ (puL HB.out)));have n1_:=m_ (l5_ (puL HB.out) hb);revert n0_ n1_;clear HB;intro HO552 HB;(try clear hb);(try clear hb2);(try clear hk);(try clear hi);(try clear ho0))|((with_reducible refine gate_dst (N:=5) rfl ?_);(try (refine gate_guard (by rfl) ?_;dsimp only));refine box_event ?hg (N:=5) ?hd (cs:=#[.string (⟨#[]⟩ : ByteArray),.slice none 0 0]) (t:=25) ?hr ?_;(case hd=>rfl);(case hg=>rfl);(case hr=>first|(go_simp;done)|(go_simp;rfl));intro gb554 hg w10 hbox hb;have n0_:=m_ (Kd.R_below (puR HO552.out) hb);have n1_:=m_ (l5_ (puL HB.out) hb);have n2_:=m_ (hbox);have n3_:=m_ ((by rw [hg];exact (l6_ (puL HB.out)) : w.heap.size ≤ gb554));have n4_:=m_ ((by rw [hg];exact (l6_ (puL HB.out)) : w.heap.size ≤ gb554));revert n0_ n1_ n2_ n3_ n4_;clear HO552 HB;intro HO552 HB BK554 GW554 GE554;clear hb hbox hg;have hcz11_0 : w10.cell? ⟨gb554,0,none⟩ = some (.string (⟨#[]⟩ : ByteArray)):=(c_ BK554.out 0).trans rfl;have hcz11_1 : w10.cell? ⟨gb554,1,none⟩ = some (.slice none 0 0):=(c_ BK554.out 1).trans rfl;have hfz11_0:=f_ BK554.out 0;have hfz11_1:=f_ BK554.out 1;obtain ⟨Ao12,co12,eo12⟩:=Kd.R_slice HO552.out;subst eo12)|((with_reducible refine gate_callee (f:=12) rfl ?_);refine goesL_ (some 25) rfl rfl Tryz.func12 (by kernel_rfl) rfl #[.agg #[.string t549,.slice Ao12 t550.length co12],.int .i64 t553] rfl lens ?_;(with_reducible refine (impl_StreamBack.calls kj2 t549 _ _ t550 t553 t555 _ ?side1 ?side2 ?side3 A7.out).mono ?_);(case side1=>refine (Kd.R_reads' (e:=31) (base:=w.heap.size) (ok:=fun k_=>True) (n:=t550.length) (c:=co12) ?_).2.2;exact (by (with_reducible repeat (first|apply Kd.R_alloc|apply Kd.R_drewN|apply Kd.R_drew));exact (Kd.R_mono (Kd.R_far (p:=⟨gb554,1,none⟩) (Kd.R_far (p:=⟨gb554,0,none⟩) (Kd.R_types HO552.out BK554.out (by decide)) (fun _ hk=>hk.2) (.string t549)) (fun _ hk=>hk.2) (.slice Ao12 t550.length co12)) (fun _ h_=>h_.1))));(case side2=>exact (Kd.R_reads' HO552.out).2.1);(case side3=>first|(with_reducible exact HG.out)|exact GV_below HG.out (puM HB.out GE554.out));rintro e w13 ⟨rfl,hb⟩;refine ⟨_,rfl,?_⟩;have n0_:=m_ (Kd.R_below (by (with_reducible repeat (first|apply Kd.R_alloc|apply Kd.R_drewN|apply Kd.R_drew));exact (Kd.R_mono (Kd.R_far (p:=⟨gb554,1,none⟩) (Kd.R_far (p:=⟨gb554,0,none⟩) (Kd.R_types HO552.out BK554.out (by decide)) (fun _ hk=>hk.2) (.string t549)) (fun _ hk=>hk.2) (.slice Ao12 t550.length co12)) (fun _ h_=>h_.1))) hb);have n1_:=m_ (blk_below (g:=gb554) (o:=.cells #[.string t549,.slice Ao12 t550.length co12] 25 (0,0)) (by (with_reducible repeat first|apply b1_|apply b2_|apply b3_);refine blk_put (cs:=#[.string t549,.slice none 0 0]) ?_ 1 _ rfl;(with_reducible repeat first|apply b1_|apply b2_|apply b3_);refine blk_put (cs:=#[.string (⟨#[]⟩ : ByteArray),.slice none 0 0]) ?_ 0 _ rfl;(with_reducible repeat first|apply b1_|apply b2_|apply b3_);exact BK554.out) hb);have n2_:=m_ (l5_ (puM HB.out GE554.out) hb);revert n0_ n1_ n2_;clear HO552 BK554 HB;intro HO552 BK554 HB;(try clear hb);(try clear hb2);(try clear hk);(try clear hi)))
    (try simp only [Act.put,s1_,s2_,s3_])
    go_cut [46] (fun v46 wc=>∃ (kq : Nat) (x46_7 : Bool),v46 = .bool x46_7 ∧ Aside0 (laws_FnStreamBack.j1 kq l1 t553 t555 x46_7 t549 t550 = some r) ∧ Aside0 (kq ≤ kj2) ∧ Aside0 (Kd.R k31 31 wc w.heap.size (fun _=>True) (.slice Ao12 t550.length co12) t550) ∧ Aside0 (wc.heap[gb554]? = some (.cells #[.string t549,(.slice Ao12 t550.length co12)] 25 (0,0))) ∧ Aside0 (Below w.heap.size w wc))
    case first =>
     have H:=HC8.out
     clear HC8
     replace H:=Option.bind_eq_some_iff.mp H
     obtain ⟨t556,A140,H⟩:=H
     have A14:=m_ A140
     clear A140
     by_cases c15 : t555 = t556
     ·rw [if_pos c15] at H
      have c15b0 : (t555 == t556) = true:=beq_iff_eq.mpr c15
      have c15b1 : (t555 != t556) = false:=bne_eq_false_iff_eq.mpr c15
      clear c15
      (first|rw [c15b0]|(simp only [i64_w,i32_w];rw [c15b0])|skip)
      replace H:=Option.bind_eq_some_iff.mp H
      obtain ⟨t557,A160,H⟩:=H
      have A16:=m_ A160
      clear A160
      by_cases c17 : t557 = true
      ·subst c17
       replace H:=ifp H rfl
       by_cases c18 : t553 < 0
       ·rw [if_pos c18] at H
        have c18b0 : decide (t553 < 0) = true:=decide_eq_true c18
        clear c18
        have H':=m_ H
        clear H
        have hcz19_0 : w13.cell? ⟨gb554,0,none⟩ = some (.string t549):=(c_ BK554.out 0).trans rfl
        have hcz19_1 : w13.cell? ⟨gb554,1,none⟩ = some (.slice Ao12 t550.length co12):=(c_ BK554.out 1).trans rfl
        have hfz19_0:=f_ BK554.out 0
        have hfz19_1:=f_ BK554.out 1
        go_wp2_with (first|((with_reducible refine gate_callee (f:=14) rfl ?_);refine goesL_ (some 29) rfl rfl Tryz.func14 (by kernel_rfl) rfl #[.agg #[.string t549,.slice Ao12 t550.length co12],.int .i64 t553] rfl lens ?_;(with_reducible refine (spec_StreamBack.calls kj2 t549 _ _ t550 t553 t556 _ ?side1 ?side2 A14.out).mono ?_);(case side1=>exact puC (Kd.R_reads' HO552.out).2.2);(case side2=>exact (Kd.R_reads' HO552.out).2.1);rintro e w20 ⟨rfl,hb⟩;refine ⟨_,rfl,?_⟩;have n0_:=m_ (Kd.R_below (puR HO552.out) hb);have n1_:=m_ (blk_below (g:=gb554) (o:=.cells #[.string t549,.slice Ao12 t550.length co12] 25 (0,0)) (puB BK554.out) hb);have n2_:=m_ (l5_ (puM HB.out GE554.out) hb);revert n0_ n1_ n2_;clear HO552 BK554 HB;intro HO552 BK554 HB;(try clear hb);(try clear hb2);(try clear hk);(try clear hi);have hcz21_0 : w20.cell? ⟨gb554,0,none⟩ = some (.string t549):=(c_ BK554.out 0).trans rfl;have hcz21_1 : w20.cell? ⟨gb554,1,none⟩ = some (.slice Ao12 t550.length co12):=(c_ BK554.out 1).trans rfl;have hfz21_0:=f_ BK554.out 0;have hfz21_1:=f_ BK554.out 1)|(go_at_call 11;(with_reducible refine (spec_StreamOk.calls kj2 t549 _ _ t550 true _ ?side1 ?side2 A16.out).mono ?_);(case side1=>exact puC (Kd.R_reads' HO552.out).2.2);(case side2=>exact (Kd.R_reads' HO552.out).2.1);rintro e w22 ⟨rfl,hb⟩;have n0_:=m_ (Kd.R_below (puR HO552.out) hb);have n1_:=m_ (blk_below (g:=gb554) (o:=.cells #[.string t549,.slice Ao12 t550.length co12] 25 (0,0)) (puB BK554.out) hb);have n2_:=m_ (l5_ (puM HB.out GE554.out) hb);revert n0_ n1_ n2_;clear HO552 BK554 HB;intro HO552 BK554 HB;(try clear hb);(try clear hb2);(try clear hk);(try clear hi)))
        go_meet
        case rel=>exact ⟨_,(true),(by first|rfl|(simp;done)|(simp [*];done)),H',⟨by have:=HJ2.out;first|omega|exact Nat.le_refl _⟩,⟨by (with_reducible repeat (first|apply Kd.R_alloc|apply Kd.R_drewN|apply Kd.R_drew));exact HO552.out⟩,⟨by (with_reducible repeat first|apply b1_|apply b2_|apply b3_);exact BK554.out⟩,⟨puM HB.out GE554.out⟩⟩
       ·rw [if_neg c18] at H
        have c18b0 : decide (t553 < 0) = false:=decide_eq_false c18
        clear c18
        replace H:=Option.bind_eq_some_iff.mp H
        obtain ⟨t558,A230,H⟩:=H
        have A23:=m_ A230
        clear A230
        have H':=m_ H
        clear H
        have hcz24_0 : w13.cell? ⟨gb554,0,none⟩ = some (.string t549):=(c_ BK554.out 0).trans rfl
        have hcz24_1 : w13.cell? ⟨gb554,1,none⟩ = some (.slice Ao12 t550.length co12):=(c_ BK554.out 1).trans rfl
        have hfz24_0:=f_ BK554.out 0
        have hfz24_1:=f_ BK554.out 1
        go_wp2_with (first|((with_reducible refine gate_callee (f:=14) rfl ?_);refine goesL_ (some 29) rfl rfl Tryz.func14 (by kernel_rfl) rfl #[.agg #[.string t549,.slice Ao12 t550.length co12],.int .i64 t553] rfl lens ?_;(with_reducible refine (spec_StreamBack.calls kj2 t549 _ _ t550 t553 t556 _ ?side1 ?side2 A14.out).mono ?_);(case side1=>exact puC (Kd.R_reads' HO552.out).2.2);(case side2=>exact (Kd.R_reads' HO552.out).2.1);rintro e w25 ⟨rfl,hb⟩;refine ⟨_,rfl,?_⟩;have n0_:=m_ (Kd.R_below (puR HO552.out) hb);have n1_:=m_ (blk_below (g:=gb554) (o:=.cells #[.string t549,.slice Ao12 t550.length co12] 25 (0,0)) (puB BK554.out) hb);have n2_:=m_ (l5_ (puM HB.out GE554.out) hb);revert n0_ n1_ n2_;clear HO552 BK554 HB;intro HO552 BK554 HB;(try clear hb);(try clear hb2);(try clear hk);(try clear hi);have hcz26_0 : w25.cell? ⟨gb554,0,none⟩ = some (.string t549):=(c_ BK554.out 0).trans rfl;have hcz26_1 : w25.cell? ⟨gb554,1,none⟩ = some (.slice Ao12 t550.length co12):=(c_ BK554.out 1).trans rfl;have hfz26_0:=f_ BK554.out 0;have hfz26_1:=f_ BK554.out 1)|(go_at_call 11;(with_reducible refine (spec_StreamOk.calls kj2 t549 _ _ t550 true _ ?side1 ?side2 A16.out).mono ?_);(case side1=>exact puC (Kd.R_reads' HO552.out).2.2);(case side2=>exact (Kd.R_reads' HO552.out).2.1);rintro e w27 ⟨rfl,hb⟩;have n0_:=m_ (Kd.R_below (puR HO552.out) hb);have n1_:=m_ (blk_below (g:=gb554) (o:=.cells #[.string t549,.slice Ao12 t550.length co12] 25 (0,0)) (puB BK554.out) hb);have n2_:=m_ (l5_ (puM HB.out GE554.out) hb);revert n0_ n1_ n2_;clear HO552 BK554 HB;intro HO552 BK554 HB;(try clear hb);(try clear hb2);(try clear hk);(try clear hi);have hcz28_0 : w27.cell? ⟨gb554,0,none⟩ = some (.string t549):=(c_ BK554.out 0).trans rfl;have hcz28_1 : w27.cell? ⟨gb554,1,none⟩ = some (.slice Ao12 t550.length co12):=(c_ BK554.out 1).trans rfl;have hfz28_0:=f_ BK554.out 0;have hfz28_1:=f_ BK554.out 1)|(go_at_call 15;(with_reducible refine (impl_StreamOut.calls kj2 t549 _ _ t550 t558 _ ?side1 ?side2 ?side3 A23.out).mono ?_);(case side1=>exact puC (Kd.R_reads' HO552.out).2.2);(case side2=>exact (Kd.R_reads' HO552.out).2.1);(case side3=>first|(with_reducible exact HG.out)|exact GV_below HG.out (puM HB.out GE554.out));rintro e w29 ⟨rfl,hb⟩;have n0_:=m_ (Kd.R_below (puR HO552.out) hb);have n1_:=m_ (blk_below (g:=gb554) (o:=.cells #[.string t549,.slice Ao12 t550.length co12] 25 (0,0)) (puB BK554.out) hb);have n2_:=m_ (l5_ (puM HB.out GE554.out) hb);revert n0_ n1_ n2_;clear HO552 BK554 HB;intro HO552 BK554 HB;(try clear hb);(try clear hb2);(try clear hk);(try clear hi)))
        go_meet
        case rel=>exact ⟨_,(decide (t553 > (t558.size : Int))),(by first|rfl|(simp;done)|(simp [*];done)),H',⟨by have:=HJ2.out;first|omega|exact Nat.le_refl _⟩,⟨by (with_reducible repeat (first|apply Kd.R_alloc|apply Kd.R_drewN|apply Kd.R_drew));exact HO552.out⟩,⟨by (with_reducible repeat first|apply b1_|apply b2_|apply b3_);exact BK554.out⟩,⟨puM HB.out GE554.out⟩⟩
      ·replace c17:=Bool.eq_false_iff.mpr c17
       subst c17
       replace H:=ifn H
       have H':=m_ H
       clear H
       have hcz30_0 : w13.cell? ⟨gb554,0,none⟩ = some (.string t549):=(c_ BK554.out 0).trans rfl
       have hcz30_1 : w13.cell? ⟨gb554,1,none⟩ = some (.slice Ao12 t550.length co12):=(c_ BK554.out 1).trans rfl
       have hfz30_0:=f_ BK554.out 0
       have hfz30_1:=f_ BK554.out 1
       go_wp2_with (first|((with_reducible refine gate_callee (f:=14) rfl ?_);refine goesL_ (some 29) rfl rfl Tryz.func14 (by kernel_rfl) rfl #[.agg #[.string t549,.slice Ao12 t550.length co12],.int .i64 t553] rfl lens ?_;(with_reducible refine (spec_StreamBack.calls kj2 t549 _ _ t550 t553 t556 _ ?side1 ?side2 A14.out).mono ?_);(case side1=>exact puC (Kd.R_reads' HO552.out).2.2);(case side2=>exact (Kd.R_reads' HO552.out).2.1);rintro e w31 ⟨rfl,hb⟩;refine ⟨_,rfl,?_⟩;have n0_:=m_ (Kd.R_below (puR HO552.out) hb);have n1_:=m_ (blk_below (g:=gb554) (o:=.cells #[.string t549,.slice Ao12 t550.length co12] 25 (0,0)) (puB BK554.out) hb);have n2_:=m_ (l5_ (puM HB.out GE554.out) hb);revert n0_ n1_ n2_;clear HO552 BK554 HB;intro HO552 BK554 HB;(try clear hb);(try clear hb2);(try clear hk);(try clear hi);have hcz32_0 : w31.cell? ⟨gb554,0,none⟩ = some (.string t549):=(c_ BK554.out 0).trans rfl;have hcz32_1 : w31.cell? ⟨gb554,1,none⟩ = some (.slice Ao12 t550.length co12):=(c_ BK554.out 1).trans rfl;have hfz32_0:=f_ BK554.out 0;have hfz32_1:=f_ BK554.out 1)|(go_at_call 11;(with_reducible refine (spec_StreamOk.calls kj2 t549 _ _ t550 false _ ?side1 ?side2 A16.out).mono ?_);(case side1=>exact puC (Kd.R_reads' HO552.out).2.2);(case side2=>exact (Kd.R_reads' HO552.out).2.1);rintro e w33 ⟨rfl,hb⟩;have n0_:=m_ (Kd.R_below (puR HO552.out) hb);have n1_:=m_ (blk_below (g:=gb554) (o:=.cells #[.string t549,.slice Ao12 t550.length co12] 25 (0,0)) (puB BK554.out) hb);have n2_:=m_ (l5_ (puM HB.out GE554.out) hb);revert n0_ n1_ n2_;clear HO552 BK554 HB;intro HO552 BK554 HB;(try clear hb);(try clear hb2);(try clear hk);(try clear hi)))
       go_meet
       case rel=>exact ⟨_,(true),(by first|rfl|(simp;done)|(simp [*];done)),H',⟨by have:=HJ2.out;first|omega|exact Nat.le_refl _⟩,⟨by (with_reducible repeat (first|apply Kd.R_alloc|apply Kd.R_drewN|apply Kd.R_drew));exact HO552.out⟩,⟨by (with_reducible repeat first|apply b1_|apply b2_|apply b3_);exact BK554.out⟩,⟨puM HB.out GE554.out⟩⟩
     ·rw [if_neg c15] at H
      have c15b0 : (t555 == t556) = false:=beq_eq_false_iff_ne.mpr c15
      have c15b1 : (t555 != t556) = true:=bne_iff_ne.mpr c15
      (first|rw [c15b0]|(simp only [i64_w,i32_w];rw [c15b0])|skip)
      have H':=m_ H
      clear H
      have hcz34_0 : w13.cell? ⟨gb554,0,none⟩ = some (.string t549):=(c_ BK554.out 0).trans rfl
      have hcz34_1 : w13.cell? ⟨gb554,1,none⟩ = some (.slice Ao12 t550.length co12):=(c_ BK554.out 1).trans rfl
      have hfz34_0:=f_ BK554.out 0
      have hfz34_1:=f_ BK554.out 1
      go_wp2_with (first|((with_reducible refine gate_callee (f:=14) rfl ?_);refine goesL_ (some 29) rfl rfl Tryz.func14 (by kernel_rfl) rfl #[.agg #[.string t549,.slice Ao12 t550.length co12],.int .i64 t553] rfl lens ?_;(with_reducible refine (spec_StreamBack.calls kj2 t549 _ _ t550 t553 t556 _ ?side1 ?side2 A14.out).mono ?_);(case side1=>exact puC (Kd.R_reads' HO552.out).2.2);(case side2=>exact (Kd.R_reads' HO552.out).2.1);rintro e w35 ⟨rfl,hb⟩;refine ⟨_,rfl,?_⟩;have n0_:=m_ (Kd.R_below (puR HO552.out) hb);have n1_:=m_ (blk_below (g:=gb554) (o:=.cells #[.string t549,.slice Ao12 t550.length co12] 25 (0,0)) (puB BK554.out) hb);have n2_:=m_ (l5_ (puM HB.out GE554.out) hb);revert n0_ n1_ n2_;clear HO552 BK554 HB;intro HO552 BK554 HB;(try clear hb);(try clear hb2);(try clear hk);(try clear hi)))
      go_meet
      case rel=>exact ⟨_,(true),(by first|rfl|(simp;done)|(simp [*];done)),H',⟨by have:=HJ2.out;first|omega|exact Nat.le_refl _⟩,⟨by (with_reducible repeat (first|apply Kd.R_alloc|apply Kd.R_drewN|apply Kd.R_drew));exact HO552.out⟩,⟨by (with_reducible repeat first|apply b1_|apply b2_|apply b3_);exact BK554.out⟩,⟨puM HB.out GE554.out⟩⟩
    case rest =>
     clear HC8
     try clear c1
     try clear p2
     try clear c4
     try clear c4b0
     try clear c4b1
     try clear c5
     try clear c12
     try clear c13
     try clear c14
     try clear c15
     try clear c15b0
     try clear c15b1
     try clear c17
     try clear c18
     try clear c18b0
     try clear hcz11_0
     try clear hcz11_1
     try clear hcz19_0
     try clear hcz19_1
     try clear hcz21_0
     try clear hcz21_1
     try clear hcz24_0
     try clear hcz24_1
     try clear hcz26_0
     try clear hcz26_1
     try clear hcz28_0
     try clear hcz28_1
     try clear hcz30_0
     try clear hcz30_1
     try clear hcz32_0
     try clear hcz32_1
     try clear hcz34_0
     try clear hcz34_1
     try clear hfz11_0
     try clear hfz11_1
     try clear hfz19_0
     try clear hfz19_1
     try clear hfz21_0
     try clear hfz21_1
     try clear hfz24_0
     try clear hfz24_1
     try clear hfz26_0
     try clear hfz26_1
     try clear hfz28_0
     try clear hfz28_1
     try clear hfz30_0
     try clear hfz30_1
     try clear hfz32_0
     try clear hfz32_1
     try clear hfz34_0
     try clear hfz34_1
     try clear p2
     obtain ⟨kq,x46_7,rfl,HA,HJ7,HO_555001,BK554,HB⟩:=hcut
     cases kq with
     | zero => exact absurd HA.out (by simp [laws_FnStreamBack.j1])
     | succ kj7 =>
      have H:=HA.out
      clear HA
      simp only [laws_FnStreamBack.j1] at H
      by_cases c36 : x46_7 = true
      ·subst c36
       replace H:=ifp H rfl
       replace H:=Option.bind_eq_some_iff.mp H
       obtain ⟨t559,A370,H⟩:=H
       have A37:=m_ A370
       clear A370
       obtain rfl:=Option.some.inj H
       have hcz38_0 : wc.cell? ⟨gb554,0,none⟩ = some (.string t549):=(c_ BK554.out 0).trans rfl
       have hcz38_1 : wc.cell? ⟨gb554,1,none⟩ = some (.slice Ao12 t550.length co12):=(c_ BK554.out 1).trans rfl
       have hfz38_0:=f_ BK554.out 0
       have hfz38_1:=f_ BK554.out 1
       go_wp2_with (first|((with_reducible refine gate_callee (f:=14) rfl ?_);refine goesL_ (some 50) rfl rfl Tryz.func14 (by kernel_rfl) rfl #[.agg #[.string t549,.slice Ao12 t550.length co12],.int .i64 t553] rfl lens ?_;(with_reducible refine (spec_StreamBack.calls kj7 t549 _ _ t550 t553 t559 _ ?side1 ?side2 A37.out).mono ?_);(case side1=>exact puC (Kd.R_reads' HO_555001.out).2.2);(case side2=>exact (Kd.R_reads' HO_555001.out).2.1);rintro e w39 ⟨rfl,hb⟩;refine ⟨_,rfl,?_⟩;have n0_:=m_ (Kd.R_below (puR HO_555001.out) hb);have n1_:=m_ (blk_below (g:=gb554) (o:=.cells #[.string t549,.slice Ao12 t550.length co12] 25 (0,0)) (puB BK554.out) hb);have n2_:=m_ (l5_ (puM HB.out GE554.out) hb);revert n0_ n1_ n2_;clear HO_555001 BK554 HB;intro HO_555001 BK554 HB;(try clear hb);(try clear hb2);(try clear hk);(try clear hi)))
       go_ret
       exact ⟨eqs,puM HB.out GE554.out⟩
      ·replace c36:=Bool.eq_false_iff.mpr c36
       subst c36
       replace H:=ifn H
       by_cases c40 : (wrap64 (t553 + 1)) = 0
       ·rw [if_pos c40] at H
        exact absurd H (by simp)
       ·rw [if_neg c40] at H
        have c40b0 : ((wrap64 (t553 + 1)) == 0) = false:=beq_eq_false_iff_ne.mpr c40
        have c40b1 : ((wrap64 (t553 + 1)) != 0) = true:=bne_iff_ne.mpr c40
        replace H:=Option.bind_eq_some_iff.mp H
        obtain ⟨t560,A410,H⟩:=H
        have A41:=m_ A410
        clear A410
        replace H:=Option.bind_eq_some_iff.mp H
        obtain ⟨t561,A420,H⟩:=H
        have A42:=m_ A420
        clear A420
        by_cases c43 : t561 ≤ t553
        ·rw [if_pos c43] at H
         have c43b0 : decide (t561 ≤ t553) = true:=decide_eq_true c43
         clear c43
         replace H:=Option.bind_eq_some_iff.mp H
         obtain ⟨t562,A440,H⟩:=H
         have A44:=m_ A440
         clear A440
         by_cases c45 : t562 ≤ t555
         ·rw [if_pos c45] at H
          have c45b0 : decide (t562 ≤ t555) = true:=decide_eq_true c45
          clear c45
          replace H:=Option.bind_eq_some_iff.mp H
          obtain ⟨t563,A460,H⟩:=H
          have A46:=m_ A460
          clear A460
          replace H:=Option.bind_eq_some_iff.mp H
          obtain ⟨t564,A470,H⟩:=H
          have A47:=m_ A470
          clear A470
          by_cases c48 : t563 = (wrap64 ((t549.size : Int) - t564))
          ·rw [if_pos c48] at H
           have c48b0 : (t563 == (wrap64 ((t549.size : Int) - t564))) = true:=beq_iff_eq.mpr c48
           have c48b1 : (t563 != (wrap64 ((t549.size : Int) - t564))) = false:=bne_eq_false_iff_eq.mpr c48
           clear c48
           replace H:=Option.bind_eq_some_iff.mp H
           obtain ⟨t565,A490,H⟩:=H
           have A49:=m_ A490
           clear A490
           obtain rfl:=Option.some.inj H
           have hcz50_0 : wc.cell? ⟨gb554,0,none⟩ = some (.string t549):=(c_ BK554.out 0).trans rfl
           have hcz50_1 : wc.cell? ⟨gb554,1,none⟩ = some (.slice Ao12 t550.length co12):=(c_ BK554.out 1).trans rfl
           have hfz50_0:=f_ BK554.out 0
           have hfz50_1:=f_ BK554.out 1
           try go_wp2_with (first|((with_reducible refine gate_callee (f:=15) rfl ?_);refine goesL_ (some 58) rfl rfl Tryz.func15 (by kernel_rfl) rfl #[.agg #[.string t549,.slice Ao12 t550.length co12]] rfl lens ?_;(with_reducible refine (impl_StreamOut.calls kj7 t549 _ _ t550 t560 _ ?side1 ?side2 ?side3 A41.out).mono ?_);(case side1=>exact puC (Kd.R_reads' HO_555001.out).2.2);(case side2=>exact (Kd.R_reads' HO_555001.out).2.1);(case side3=>first|(with_reducible exact HG.out)|exact GV_below HG.out (puM HB.out GE554.out));rintro e w51 ⟨rfl,hb⟩;refine ⟨_,rfl,?_⟩;have n0_:=m_ (Kd.R_below (puR HO_555001.out) hb);have n1_:=m_ (blk_below (g:=gb554) (o:=.cells #[.string t549,.slice Ao12 t550.length co12] 25 (0,0)) (puB BK554.out) hb);have n2_:=m_ (l5_ (puM HB.out GE554.out) hb);revert n0_ n1_ n2_;clear HO_555001 BK554 HB;intro HO_555001 BK554 HB;(try clear hb);(try clear hb2);(try clear hk);(try clear hi)))
           have n0_:=m_ (Kd.R_drew HO_555001.out)
           have n1_:=m_ (b2_ BK554.out)
           have n2_:=m_ (l3_ HB.out)
           clear HO_555001
           clear BK554
           clear HB
           have HO_555001:=n0_
           have BK554:=n1_
           have HB:=n2_
           clear n0_ n1_ n2_
           refine start_ (n:=31) (S:=fun w'=>w'.cell? ⟨gb554,0,none⟩ = some (.string t549) ∧ w'.cell? ⟨gb554,1,none⟩ = some (.slice Ao12 t550.length co12)) (ds:=[]) #[false,false,false,false,false,false,false,false,false,false,false,false,false,false,false,false,false,false,false,false,false,false,false,false,false,false,false,false,false,false,false] (by kernel_rfl) rfl rfl ⟨(c_ BK554.out 0).trans rfl,(c_ BK554.out 1).trans rfl⟩ (fun hHeld=>?_);refine with_tabW laws_FnStreamBack.tab9 laws_FnStreamBack.bits9 (fun HT_ HW_=>?_)
           generalize w51.drew = w52 at HO_555001 BK554 HB hHeld ⊢
           refine pureA 1 (some 61) HT_.out ?_
           refine pureA 3 (some 63) HT_.out ?_
           refine takeA 0 (some 60) rfl rfl HT_.out HW_.out hHeld ?_ (by rintro w' ⟨s0,s1⟩;go_simp;with_reducible rfl)
           refine one_ (i:=2) (N:=some 62) #[true,true,true,true,false,false,false,false,false,false,false,false,false,false,false,false,false,false,false,false,false,false,false,false,false,false,false,false,false,false,false] rfl rfl (one_of HT_.out (by kernel_rfl)) (by decide) (fun K hK=>?_)
           refine goes_ Tryz.func9 (by kernel_rfl) rfl #[.agg #[.string t549,.slice Ao12 t550.length co12],.int .i64 t555] (by rfl) rfl rfl lens ?_
           with_reducible refine (impl_StreamFor.calls kj7 t549 _ _ t550 t555 t561 _ ?side1 ?side2 ?side3 A42.out).mono ?_
           (case side1=>exact puC (Kd.R_reads' HO_555001.out).2.2)
           (case side2=>exact (Kd.R_reads' HO_555001.out).2.1)
           (case side3=>first|(with_reducible exact HG.out)|exact GV_below HG.out (puM HB.out GE554.out))
           rintro e w53 ⟨rfl,hb⟩
           refine ⟨_,rfl,?_⟩
           have n0_:=m_ (Kd.R_below (puR HO_555001.out) hb)
           have n1_:=m_ (blk_below (g:=gb554) (o:=.cells #[.string t549,.slice Ao12 t550.length co12] 25 (0,0)) (puB BK554.out) hb)
           have n2_:=m_ (l5_ (puM HB.out GE554.out) hb)
           clear HO_555001
           clear BK554
           clear HB
           have HO_555001:=n0_
           have BK554:=n1_
           have HB:=n2_
           clear n0_ n1_ n2_
           (try clear hb)
           (try clear hb2)
           (try clear hk)
           (try clear hi)
           refine hK.out _ _ ⟨(c_ BK554.out 0).trans rfl,(c_ BK554.out 1).trans rfl⟩ (fun hHeld=>?_)
           clear hK K
           refine norm_ (a':=?_) ?_ ?_
           rotate_left
           ·show Act.put _ (some 62) _ = _
            simp only [Act.put,s1_,s2_,s3_,i64_w,i32_w]
            rfl
           refine pureA 4 (some 64) HT_.out ?_
           refine pureA 5 (some 65) HT_.out ?_
           refine pureA 7 (some 67) HT_.out ?_
           refine pureA 9 (some 69) HT_.out ?_
           refine takeA 6 (some 66) rfl rfl HT_.out HW_.out hHeld ?_ (by rintro w' ⟨s0,s1⟩;go_simp;with_reducible rfl)
           refine one_ (i:=8) (N:=some 68) #[true,true,true,true,true,true,true,true,true,true,false,false,false,false,false,false,false,false,false,false,false,false,false,false,false,false,false,false,false,false,false] rfl rfl (one_of HT_.out (by kernel_rfl)) (by decide) (fun K hK=>?_)
           refine goes_ Tryz.func12 (by kernel_rfl) rfl #[.agg #[.string t549,.slice Ao12 t550.length co12],.int .i64 ((l1.length : Int) % (wrap64 (t553 + 1)))] (by rfl) rfl rfl lens ?_
           with_reducible refine (impl_StreamBack.calls kj7 t549 _ _ t550 ((l1.length : Int) % (wrap64 (t553 + 1))) t562 _ ?side1 ?side2 ?side3 A44.out).mono ?_
           (case side1=>exact puC (Kd.R_reads' HO_555001.out).2.2)
           (case side2=>exact (Kd.R_reads' HO_555001.out).2.1)
           (case side3=>first|(with_reducible exact HG.out)|exact GV_below HG.out (puM HB.out GE554.out))
           rintro e w54 ⟨rfl,hb⟩
           refine ⟨_,rfl,?_⟩
           have n0_:=m_ (Kd.R_below (puR HO_555001.out) hb)
           have n1_:=m_ (blk_below (g:=gb554) (o:=.cells #[.string t549,.slice Ao12 t550.length co12] 25 (0,0)) (puB BK554.out) hb)
           have n2_:=m_ (l5_ (puM HB.out GE554.out) hb)
           clear HO_555001
           clear BK554
           clear HB
           have HO_555001:=n0_
           have BK554:=n1_
           have HB:=n2_
           clear n0_ n1_ n2_
           (try clear hb)
           (try clear hb2)
           (try clear hk)
           (try clear hi)
           refine hK.out _ _ ⟨(c_ BK554.out 0).trans rfl,(c_ BK554.out 1).trans rfl⟩ (fun hHeld=>?_)
           clear hK K
           refine norm_ (a':=?_) ?_ ?_
           rotate_left
           ·show Act.put _ (some 68) _ = _
            simp only [Act.put,s1_,s2_,s3_,i64_w,i32_w]
            rfl
           refine pureA 10 (some 70) HT_.out ?_
           refine pureA 11 (some 71) HT_.out ?_
           refine pureA 12 (some 72) HT_.out ?_
           refine pureA 14 (some 74) HT_.out ?_
           refine pureA 16 (some 76) HT_.out ?_
           refine pureA 19 (some 79) HT_.out ?_
           refine takeA 13 (some 73) rfl rfl HT_.out HW_.out hHeld ?_ (by rintro w' ⟨s0,s1⟩;go_simp;with_reducible rfl)
           refine takeA 17 (some 77) rfl rfl HT_.out HW_.out hHeld ?_ (by rintro w' ⟨s0,s1⟩;go_simp;with_reducible rfl)
           refine pureA 18 (some 78) HT_.out ?_
           refine takeA 20 (some 80) rfl rfl HT_.out HW_.out hHeld ?_ (by rintro w' ⟨s0,s1⟩;go_simp;with_reducible rfl)
           refine one_ (i:=15) (N:=some 75) #[true,true,true,true,true,true,true,true,true,true,true,true,true,true,true,true,true,true,true,true,true,false,false,false,false,false,false,false,false,false,false] rfl rfl (one_of HT_.out (by kernel_rfl)) (by decide) (fun K hK=>?_)
           refine goes_ Tryz.func12 (by kernel_rfl) rfl #[.agg #[.string t549,.slice Ao12 t550.length co12],.int .i64 (t560.size : Int)] (by rfl) rfl rfl lens ?_
           with_reducible refine (impl_StreamBack.calls kj7 t549 _ _ t550 (t560.size : Int) t563 _ ?side1 ?side2 ?side3 A46.out).mono ?_
           (case side1=>exact puC (Kd.R_reads' HO_555001.out).2.2)
           (case side2=>exact (Kd.R_reads' HO_555001.out).2.1)
           (case side3=>first|(with_reducible exact HG.out)|exact GV_below HG.out (puM HB.out GE554.out))
           rintro e w55 ⟨rfl,hb⟩
           refine ⟨_,rfl,?_⟩
           have n0_:=m_ (Kd.R_below (puR HO_555001.out) hb)
           have n1_:=m_ (blk_below (g:=gb554) (o:=.cells #[.string t549,.slice Ao12 t550.length co12] 25 (0,0)) (puB BK554.out) hb)
           have n2_:=m_ (l5_ (puM HB.out GE554.out) hb)
           clear HO_555001
           clear BK554
           clear HB
           have HO_555001:=n0_
           have BK554:=n1_
           have HB:=n2_
           clear n0_ n1_ n2_
           (try clear hb)
           (try clear hb2)
           (try clear hk)
           (try clear hi)
           refine hK.out _ _ ⟨(c_ BK554.out 0).trans rfl,(c_ BK554.out 1).trans rfl⟩ (fun hHeld=>?_)
           clear hK K
           refine norm_ (a':=?_) ?_ ?_
           rotate_left
           ·show Act.put _ (some 75) _ = _
            simp only [Act.put,s1_,s2_,s3_,i64_w,i32_w]
            rfl
           refine one_ (i:=21) (N:=some 81) #[true,true,true,true,true,true,true,true,true,true,true,true,true,true,true,true,true,true,true,true,true,true,false,false,false,false,false,false,false,false,false] rfl rfl (one_of HT_.out (by kernel_rfl)) (by decide) (fun K hK=>?_)
           refine goes_ Tryz.func16 (by kernel_rfl) rfl #[.string t549] (by rfl) rfl rfl lens ?_
           with_reducible refine (impl_TextHeld.calls kj7 t549 t564 _ A47.out).mono ?_
           rintro e w56 ⟨rfl,hb⟩
           refine ⟨_,rfl,?_⟩
           have n0_:=m_ (Kd.R_below (puR HO_555001.out) hb)
           have n1_:=m_ (blk_below (g:=gb554) (o:=.cells #[.string t549,.slice Ao12 t550.length co12] 25 (0,0)) (puB BK554.out) hb)
           have n2_:=m_ (l5_ (puM HB.out GE554.out) hb)
           clear HO_555001
           clear BK554
           clear HB
           have HO_555001:=n0_
           have BK554:=n1_
           have HB:=n2_
           clear n0_ n1_ n2_
           (try clear hb)
           (try clear hb2)
           (try clear hk)
           (try clear hi)
           refine hK.out _ _ ⟨(c_ BK554.out 0).trans rfl,(c_ BK554.out 1).trans rfl⟩ (fun hHeld=>?_)
           clear hK K
           refine norm_ (a':=?_) ?_ ?_
           rotate_left
           ·show Act.put _ (some 81) _ = _
            simp only [Act.put,s1_,s2_,s3_,i64_w,i32_w]
            rfl
           refine pureA 22 (some 82) HT_.out ?_
           refine pureA 23 (some 83) HT_.out ?_
           refine pureA 24 (some 84) HT_.out ?_
           refine pureA 25 (some 85) HT_.out ?_
           refine takeA 26 (some 86) rfl rfl HT_.out HW_.out hHeld ?_ (by rintro w' ⟨s0,s1⟩;go_simp;with_reducible rfl)
           refine one_ (i:=27) (N:=some 87) #[true,true,true,true,true,true,true,true,true,true,true,true,true,true,true,true,true,true,true,true,true,true,true,true,true,true,true,true,false,false,false] rfl rfl (one_of HT_.out (by kernel_rfl)) (by decide) (fun K hK=>?_)
           refine goes_ Tryz.func12 (by kernel_rfl) rfl #[.agg #[.string t549,.slice Ao12 t550.length co12],.int .i64 0] (by rfl) rfl rfl lens ?_
           with_reducible refine (impl_StreamBack.calls kj7 t549 _ _ t550 0 t565 _ ?side1 ?side2 ?side3 A49.out).mono ?_
           (case side1=>exact puC (Kd.R_reads' HO_555001.out).2.2)
           (case side2=>exact (Kd.R_reads' HO_555001.out).2.1)
           (case side3=>first|(with_reducible exact HG.out)|exact GV_below HG.out (puM HB.out GE554.out))
           rintro e w57 ⟨rfl,hb⟩
           refine ⟨_,rfl,?_⟩
           have n0_:=m_ (Kd.R_below (puR HO_555001.out) hb)
           have n1_:=m_ (blk_below (g:=gb554) (o:=.cells #[.string t549,.slice Ao12 t550.length co12] 25 (0,0)) (puB BK554.out) hb)
           have n2_:=m_ (l5_ (puM HB.out GE554.out) hb)
           clear HO_555001
           clear BK554
           clear HB
           have HO_555001:=n0_
           have BK554:=n1_
           have HB:=n2_
           clear n0_ n1_ n2_
           (try clear hb)
           (try clear hb2)
           (try clear hk)
           (try clear hi)
           refine hK.out _ _ ⟨(c_ BK554.out 0).trans rfl,(c_ BK554.out 1).trans rfl⟩ (fun hHeld=>?_)
           clear hK K
           refine norm_ (a':=?_) ?_ ?_
           rotate_left
           ·show Act.put _ (some 87) _ = _
            simp only [Act.put,s1_,s2_,s3_,i64_w,i32_w]
            rfl
           refine pureA 28 (some 88) HT_.out ?_
           refine pureA 29 (some 89) HT_.out ?_
           refine pureA 30 (some 4) HT_.out ?_
           refine done_ (done_of HT_.out (by kernel_rfl)) ?_
           try go_wp2
           go_ret
           exact ⟨eqs,puM HB.out GE554.out⟩
          ·rw [if_neg c48] at H
           have c48b0 : (t563 == (wrap64 ((t549.size : Int) - t564))) = false:=beq_eq_false_iff_ne.mpr c48
           have c48b1 : (t563 != (wrap64 ((t549.size : Int) - t564))) = true:=bne_iff_ne.mpr c48
           obtain rfl:=Option.some.inj H
           have hcz58_0 : wc.cell? ⟨gb554,0,none⟩ = some (.string t549):=(c_ BK554.out 0).trans rfl
           have hcz58_1 : wc.cell? ⟨gb554,1,none⟩ = some (.slice Ao12 t550.length co12):=(c_ BK554.out 1).trans rfl
           have hfz58_0:=f_ BK554.out 0
           have hfz58_1:=f_ BK554.out 1
           try go_wp2_with (first|((with_reducible refine gate_callee (f:=15) rfl ?_);refine goesL_ (some 58) rfl rfl Tryz.func15 (by kernel_rfl) rfl #[.agg #[.string t549,.slice Ao12 t550.length co12]] rfl lens ?_;(with_reducible refine (impl_StreamOut.calls kj7 t549 _ _ t550 t560 _ ?side1 ?side2 ?side3 A41.out).mono ?_);(case side1=>exact puC (Kd.R_reads' HO_555001.out).2.2);(case side2=>exact (Kd.R_reads' HO_555001.out).2.1);(case side3=>first|(with_reducible exact HG.out)|exact GV_below HG.out (puM HB.out GE554.out));rintro e w59 ⟨rfl,hb⟩;refine ⟨_,rfl,?_⟩;have n0_:=m_ (Kd.R_below (puR HO_555001.out) hb);have n1_:=m_ (blk_below (g:=gb554) (o:=.cells #[.string t549,.slice Ao12 t550.length co12] 25 (0,0)) (puB BK554.out) hb);have n2_:=m_ (l5_ (puM HB.out GE554.out) hb);revert n0_ n1_ n2_;clear HO_555001 BK554 HB;intro HO_555001 BK554 HB;(try clear hb);(try clear hb2);(try clear hk);(try clear hi)))
           have n0_:=m_ (Kd.R_drew HO_555001.out)
           have n1_:=m_ (b2_ BK554.out)
           have n2_:=m_ (l3_ HB.out)
           clear HO_555001
           clear BK554
           clear HB
           have HO_555001:=n0_
           have BK554:=n1_
           have HB:=n2_
           clear n0_ n1_ n2_
           refine start_ (n:=31) (S:=fun w'=>w'.cell? ⟨gb554,0,none⟩ = some (.string t549) ∧ w'.cell? ⟨gb554,1,none⟩ = some (.slice Ao12 t550.length co12)) (ds:=[]) #[false,false,false,false,false,false,false,false,false,false,false,false,false,false,false,false,false,false,false,false,false,false,false,false,false,false,false,false,false,false,false] (by kernel_rfl) rfl rfl ⟨(c_ BK554.out 0).trans rfl,(c_ BK554.out 1).trans rfl⟩ (fun hHeld=>?_);refine with_tabW laws_FnStreamBack.tab9 laws_FnStreamBack.bits9 (fun HT_ HW_=>?_)
           generalize w59.drew = w60 at HO_555001 BK554 HB hHeld ⊢
           refine pureA 1 (some 61) HT_.out ?_
           refine pureA 3 (some 63) HT_.out ?_
           refine takeA 0 (some 60) rfl rfl HT_.out HW_.out hHeld ?_ (by rintro w' ⟨s0,s1⟩;go_simp;with_reducible rfl)
           refine one_ (i:=2) (N:=some 62) #[true,true,true,true,false,false,false,false,false,false,false,false,false,false,false,false,false,false,false,false,false,false,false,false,false,false,false,false,false,false,false] rfl rfl (one_of HT_.out (by kernel_rfl)) (by decide) (fun K hK=>?_)
           refine goes_ Tryz.func9 (by kernel_rfl) rfl #[.agg #[.string t549,.slice Ao12 t550.length co12],.int .i64 t555] (by rfl) rfl rfl lens ?_
           with_reducible refine (impl_StreamFor.calls kj7 t549 _ _ t550 t555 t561 _ ?side1 ?side2 ?side3 A42.out).mono ?_
           (case side1=>exact puC (Kd.R_reads' HO_555001.out).2.2)
           (case side2=>exact (Kd.R_reads' HO_555001.out).2.1)
           (case side3=>first|(with_reducible exact HG.out)|exact GV_below HG.out (puM HB.out GE554.out))
           rintro e w61 ⟨rfl,hb⟩
           refine ⟨_,rfl,?_⟩
           have n0_:=m_ (Kd.R_below (puR HO_555001.out) hb)
           have n1_:=m_ (blk_below (g:=gb554) (o:=.cells #[.string t549,.slice Ao12 t550.length co12] 25 (0,0)) (puB BK554.out) hb)
           have n2_:=m_ (l5_ (puM HB.out GE554.out) hb)
           clear HO_555001
           clear BK554
           clear HB
           have HO_555001:=n0_
           have BK554:=n1_
           have HB:=n2_
           clear n0_ n1_ n2_
           (try clear hb)
           (try clear hb2)
           (try clear hk)
           (try clear hi)
           refine hK.out _ _ ⟨(c_ BK554.out 0).trans rfl,(c_ BK554.out 1).trans rfl⟩ (fun hHeld=>?_)
           clear hK K
           refine norm_ (a':=?_) ?_ ?_
           rotate_left
           ·show Act.put _ (some 62) _ = _
            simp only [Act.put,s1_,s2_,s3_,i64_w,i32_w]
            rfl
           refine pureA 4 (some 64) HT_.out ?_
           refine pureA 5 (some 65) HT_.out ?_
           refine pureA 7 (some 67) HT_.out ?_
           refine pureA 9 (some 69) HT_.out ?_
           refine takeA 6 (some 66) rfl rfl HT_.out HW_.out hHeld ?_ (by rintro w' ⟨s0,s1⟩;go_simp;with_reducible rfl)
           refine one_ (i:=8) (N:=some 68) #[true,true,true,true,true,true,true,true,true,true,false,false,false,false,false,false,false,false,false,false,false,false,false,false,false,false,false,false,false,false,false] rfl rfl (one_of HT_.out (by kernel_rfl)) (by decide) (fun K hK=>?_)
           refine goes_ Tryz.func12 (by kernel_rfl) rfl #[.agg #[.string t549,.slice Ao12 t550.length co12],.int .i64 ((l1.length : Int) % (wrap64 (t553 + 1)))] (by rfl) rfl rfl lens ?_
           with_reducible refine (impl_StreamBack.calls kj7 t549 _ _ t550 ((l1.length : Int) % (wrap64 (t553 + 1))) t562 _ ?side1 ?side2 ?side3 A44.out).mono ?_
           (case side1=>exact puC (Kd.R_reads' HO_555001.out).2.2)
           (case side2=>exact (Kd.R_reads' HO_555001.out).2.1)
           (case side3=>first|(with_reducible exact HG.out)|exact GV_below HG.out (puM HB.out GE554.out))
           rintro e w62 ⟨rfl,hb⟩
           refine ⟨_,rfl,?_⟩
           have n0_:=m_ (Kd.R_below (puR HO_555001.out) hb)
           have n1_:=m_ (blk_below (g:=gb554) (o:=.cells #[.string t549,.slice Ao12 t550.length co12] 25 (0,0)) (puB BK554.out) hb)
           have n2_:=m_ (l5_ (puM HB.out GE554.out) hb)
           clear HO_555001
           clear BK554
           clear HB
           have HO_555001:=n0_
           have BK554:=n1_
           have HB:=n2_
           clear n0_ n1_ n2_
           (try clear hb)
           (try clear hb2)
           (try clear hk)
           (try clear hi)
           refine hK.out _ _ ⟨(c_ BK554.out 0).trans rfl,(c_ BK554.out 1).trans rfl⟩ (fun hHeld=>?_)
           clear hK K
           refine norm_ (a':=?_) ?_ ?_
           rotate_left
           ·show Act.put _ (some 68) _ = _
            simp only [Act.put,s1_,s2_,s3_,i64_w,i32_w]
            rfl
           refine pureA 10 (some 70) HT_.out ?_
           refine pureA 11 (some 71) HT_.out ?_
           refine pureA 12 (some 72) HT_.out ?_
           refine pureA 14 (some 74) HT_.out ?_
           refine pureA 16 (some 76) HT_.out ?_
           refine pureA 19 (some 79) HT_.out ?_
           refine takeA 13 (some 73) rfl rfl HT_.out HW_.out hHeld ?_ (by rintro w' ⟨s0,s1⟩;go_simp;with_reducible rfl)
           refine takeA 17 (some 77) rfl rfl HT_.out HW_.out hHeld ?_ (by rintro w' ⟨s0,s1⟩;go_simp;with_reducible rfl)
           refine pureA 18 (some 78) HT_.out ?_
           refine takeA 20 (some 80) rfl rfl HT_.out HW_.out hHeld ?_ (by rintro w' ⟨s0,s1⟩;go_simp;with_reducible rfl)
           refine one_ (i:=15) (N:=some 75) #[true,true,true,true,true,true,true,true,true,true,true,true,true,true,true,true,true,true,true,true,true,false,false,false,false,false,false,false,false,false,false] rfl rfl (one_of HT_.out (by kernel_rfl)) (by decide) (fun K hK=>?_)
           refine goes_ Tryz.func12 (by kernel_rfl) rfl #[.agg #[.string t549,.slice Ao12 t550.length co12],.int .i64 (t560.size : Int)] (by rfl) rfl rfl lens ?_
           with_reducible refine (impl_StreamBack.calls kj7 t549 _ _ t550 (t560.size : Int) t563 _ ?side1 ?side2 ?side3 A46.out).mono ?_
           (case side1=>exact puC (Kd.R_reads' HO_555001.out).2.2)
           (case side2=>exact (Kd.R_reads' HO_555001.out).2.1)
           (case side3=>first|(with_reducible exact HG.out)|exact GV_below HG.out (puM HB.out GE554.out))
           rintro e w63 ⟨rfl,hb⟩
           refine ⟨_,rfl,?_⟩
           have n0_:=m_ (Kd.R_below (puR HO_555001.out) hb)
           have n1_:=m_ (blk_below (g:=gb554) (o:=.cells #[.string t549,.slice Ao12 t550.length co12] 25 (0,0)) (puB BK554.out) hb)
           have n2_:=m_ (l5_ (puM HB.out GE554.out) hb)
           clear HO_555001
           clear BK554
           clear HB
           have HO_555001:=n0_
           have BK554:=n1_
           have HB:=n2_
           clear n0_ n1_ n2_
           (try clear hb)
           (try clear hb2)
           (try clear hk)
           (try clear hi)
           refine hK.out _ _ ⟨(c_ BK554.out 0).trans rfl,(c_ BK554.out 1).trans rfl⟩ (fun hHeld=>?_)
           clear hK K
           refine norm_ (a':=?_) ?_ ?_
           rotate_left
           ·show Act.put _ (some 75) _ = _
            simp only [Act.put,s1_,s2_,s3_,i64_w,i32_w]
            rfl
           refine one_ (i:=21) (N:=some 81) #[true,true,true,true,true,true,true,true,true,true,true,true,true,true,true,true,true,true,true,true,true,true,false,false,false,false,false,false,false,false,false] rfl rfl (one_of HT_.out (by kernel_rfl)) (by decide) (fun K hK=>?_)
           refine goes_ Tryz.func16 (by kernel_rfl) rfl #[.string t549] (by rfl) rfl rfl lens ?_
           with_reducible refine (impl_TextHeld.calls kj7 t549 t564 _ A47.out).mono ?_
           rintro e w64 ⟨rfl,hb⟩
           refine ⟨_,rfl,?_⟩
           have n0_:=m_ (Kd.R_below (puR HO_555001.out) hb)
           have n1_:=m_ (blk_below (g:=gb554) (o:=.cells #[.string t549,.slice Ao12 t550.length co12] 25 (0,0)) (puB BK554.out) hb)
           have n2_:=m_ (l5_ (puM HB.out GE554.out) hb)
           clear HO_555001
           clear BK554
           clear HB
           have HO_555001:=n0_
           have BK554:=n1_
           have HB:=n2_
           clear n0_ n1_ n2_
           (try clear hb)
           (try clear hb2)
           (try clear hk)
           (try clear hi)
           refine hK.out _ _ ⟨(c_ BK554.out 0).trans rfl,(c_ BK554.out 1).trans rfl⟩ (fun hHeld=>?_)
           clear hK K
           refine norm_ (a':=?_) ?_ ?_
           rotate_left
           ·show Act.put _ (some 81) _ = _
            simp only [Act.put,s1_,s2_,s3_,i64_w,i32_w]
            rfl
           refine pureA 22 (some 82) HT_.out ?_
           refine pureA 23 (some 83) HT_.out ?_
           refine pureA 24 (some 84) HT_.out ?_
           refine pureA 25 (some 85) HT_.out ?_
           refine pureU 26 (some 86) HT_.out ?_
           refine pureU 27 (some 87) HT_.out ?_
           refine pureU 28 (some 88) HT_.out ?_
           refine pureA 29 (some 89) HT_.out ?_
           refine pureA 30 (some 4) HT_.out ?_
           refine done_ (done_of HT_.out (by kernel_rfl)) ?_
           try go_wp2
           go_ret
           exact ⟨eqs,puM HB.out GE554.out⟩
         ·rw [if_neg c45] at H
          have c45b0 : decide (t562 ≤ t555) = false:=decide_eq_false c45
          clear c45
          obtain rfl:=Option.some.inj H
          have hcz65_0 : wc.cell? ⟨gb554,0,none⟩ = some (.string t549):=(c_ BK554.out 0).trans rfl
          have hcz65_1 : wc.cell? ⟨gb554,1,none⟩ = some (.slice Ao12 t550.length co12):=(c_ BK554.out 1).trans rfl
          have hfz65_0:=f_ BK554.out 0
          have hfz65_1:=f_ BK554.out 1
          try go_wp2_with (first|((with_reducible refine gate_callee (f:=15) rfl ?_);refine goesL_ (some 58) rfl rfl Tryz.func15 (by kernel_rfl) rfl #[.agg #[.string t549,.slice Ao12 t550.length co12]] rfl lens ?_;(with_reducible refine (impl_StreamOut.calls kj7 t549 _ _ t550 t560 _ ?side1 ?side2 ?side3 A41.out).mono ?_);(case side1=>exact puC (Kd.R_reads' HO_555001.out).2.2);(case side2=>exact (Kd.R_reads' HO_555001.out).2.1);(case side3=>first|(with_reducible exact HG.out)|exact GV_below HG.out (puM HB.out GE554.out));rintro e w66 ⟨rfl,hb⟩;refine ⟨_,rfl,?_⟩;have n0_:=m_ (Kd.R_below (puR HO_555001.out) hb);have n1_:=m_ (blk_below (g:=gb554) (o:=.cells #[.string t549,.slice Ao12 t550.length co12] 25 (0,0)) (puB BK554.out) hb);have n2_:=m_ (l5_ (puM HB.out GE554.out) hb);revert n0_ n1_ n2_;clear HO_555001 BK554 HB;intro HO_555001 BK554 HB;(try clear hb);(try clear hb2);(try clear hk);(try clear hi)))
          have n0_:=m_ (Kd.R_drew HO_555001.out)
          have n1_:=m_ (b2_ BK554.out)
          have n2_:=m_ (l3_ HB.out)
          clear HO_555001
          clear BK554
          clear HB
          have HO_555001:=n0_
          have BK554:=n1_
          have HB:=n2_
          clear n0_ n1_ n2_
          refine start_ (n:=31) (S:=fun w'=>w'.cell? ⟨gb554,0,none⟩ = some (.string t549) ∧ w'.cell? ⟨gb554,1,none⟩ = some (.slice Ao12 t550.length co12)) (ds:=[]) #[false,false,false,false,false,false,false,false,false,false,false,false,false,false,false,false,false,false,false,false,false,false,false,false,false,false,false,false,false,false,false] (by kernel_rfl) rfl rfl ⟨(c_ BK554.out 0).trans rfl,(c_ BK554.out 1).trans rfl⟩ (fun hHeld=>?_);refine with_tabW laws_FnStreamBack.tab9 laws_FnStreamBack.bits9 (fun HT_ HW_=>?_)
          generalize w66.drew = w67 at HO_555001 BK554 HB hHeld ⊢
          refine pureA 1 (some 61) HT_.out ?_
          refine pureA 3 (some 63) HT_.out ?_
          refine takeA 0 (some 60) rfl rfl HT_.out HW_.out hHeld ?_ (by rintro w' ⟨s0,s1⟩;go_simp;with_reducible rfl)
          refine one_ (i:=2) (N:=some 62) #[true,true,true,true,false,false,false,false,false,false,false,false,false,false,false,false,false,false,false,false,false,false,false,false,false,false,false,false,false,false,false] rfl rfl (one_of HT_.out (by kernel_rfl)) (by decide) (fun K hK=>?_)
          refine goes_ Tryz.func9 (by kernel_rfl) rfl #[.agg #[.string t549,.slice Ao12 t550.length co12],.int .i64 t555] (by rfl) rfl rfl lens ?_
          with_reducible refine (impl_StreamFor.calls kj7 t549 _ _ t550 t555 t561 _ ?side1 ?side2 ?side3 A42.out).mono ?_
          (case side1=>exact puC (Kd.R_reads' HO_555001.out).2.2)
          (case side2=>exact (Kd.R_reads' HO_555001.out).2.1)
          (case side3=>first|(with_reducible exact HG.out)|exact GV_below HG.out (puM HB.out GE554.out))
          rintro e w68 ⟨rfl,hb⟩
          refine ⟨_,rfl,?_⟩
          have n0_:=m_ (Kd.R_below (puR HO_555001.out) hb)
          have n1_:=m_ (blk_below (g:=gb554) (o:=.cells #[.string t549,.slice Ao12 t550.length co12] 25 (0,0)) (puB BK554.out) hb)
          have n2_:=m_ (l5_ (puM HB.out GE554.out) hb)
          clear HO_555001
          clear BK554
          clear HB
          have HO_555001:=n0_
          have BK554:=n1_
          have HB:=n2_
          clear n0_ n1_ n2_
          (try clear hb)
          (try clear hb2)
          (try clear hk)
          (try clear hi)
          refine hK.out _ _ ⟨(c_ BK554.out 0).trans rfl,(c_ BK554.out 1).trans rfl⟩ (fun hHeld=>?_)
          clear hK K
          refine norm_ (a':=?_) ?_ ?_
          rotate_left
          ·show Act.put _ (some 62) _ = _
           simp only [Act.put,s1_,s2_,s3_,i64_w,i32_w]
           rfl
          refine pureA 4 (some 64) HT_.out ?_
          refine pureA 5 (some 65) HT_.out ?_
          refine pureA 7 (some 67) HT_.out ?_
          refine pureA 9 (some 69) HT_.out ?_
          refine takeA 6 (some 66) rfl rfl HT_.out HW_.out hHeld ?_ (by rintro w' ⟨s0,s1⟩;go_simp;with_reducible rfl)
          refine one_ (i:=8) (N:=some 68) #[true,true,true,true,true,true,true,true,true,true,false,false,false,false,false,false,false,false,false,false,false,false,false,false,false,false,false,false,false,false,false] rfl rfl (one_of HT_.out (by kernel_rfl)) (by decide) (fun K hK=>?_)
          refine goes_ Tryz.func12 (by kernel_rfl) rfl #[.agg #[.string t549,.slice Ao12 t550.length co12],.int .i64 ((l1.length : Int) % (wrap64 (t553 + 1)))] (by rfl) rfl rfl lens ?_
          with_reducible refine (impl_StreamBack.calls kj7 t549 _ _ t550 ((l1.length : Int) % (wrap64 (t553 + 1))) t562 _ ?side1 ?side2 ?side3 A44.out).mono ?_
          (case side1=>exact puC (Kd.R_reads' HO_555001.out).2.2)
          (case side2=>exact (Kd.R_reads' HO_555001.out).2.1)
          (case side3=>first|(with_reducible exact HG.out)|exact GV_below HG.out (puM HB.out GE554.out))
          rintro e w69 ⟨rfl,hb⟩
          refine ⟨_,rfl,?_⟩
          have n0_:=m_ (Kd.R_below (puR HO_555001.out) hb)
          have n1_:=m_ (blk_below (g:=gb554) (o:=.cells #[.string t549,.slice Ao12 t550.length co12] 25 (0,0)) (puB BK554.out) hb)
          have n2_:=m_ (l5_ (puM HB.out GE554.out) hb)
          clear HO_555001
          clear BK554
          clear HB
          have HO_555001:=n0_
          have BK554:=n1_
          have HB:=n2_
          clear n0_ n1_ n2_
          (try clear hb)
          (try clear hb2)
          (try clear hk)
          (try clear hi)
          refine hK.out _ _ ⟨(c_ BK554.out 0).trans rfl,(c_ BK554.out 1).trans rfl⟩ (fun hHeld=>?_)
          clear hK K
          refine norm_ (a':=?_) ?_ ?_
          rotate_left
          ·show Act.put _ (some 68) _ = _
           simp only [Act.put,s1_,s2_,s3_,i64_w,i32_w]
           rfl
          refine pureA 10 (some 70) HT_.out ?_
          refine pureA 11 (some 71) HT_.out ?_
          refine pureA 12 (some 72) HT_.out ?_
          refine pureU 13 (some 73) HT_.out ?_
          refine pureU 14 (some 74) HT_.out ?_
          refine pureU 15 (some 75) HT_.out ?_
          refine pureU 16 (some 76) HT_.out ?_
          refine pureU 17 (some 77) HT_.out ?_
          refine pureU 18 (some 78) HT_.out ?_
          refine pureU 19 (some 79) HT_.out ?_
          refine pureU 20 (some 80) HT_.out ?_
          refine pureU 21 (some 81) HT_.out ?_
          refine pureU 22 (some 82) HT_.out ?_
          refine pureU 23 (some 83) HT_.out ?_
          refine pureA 24 (some 84) HT_.out ?_
          refine pureA 25 (some 85) HT_.out ?_
          refine pureU 26 (some 86) HT_.out ?_
          refine pureU 27 (some 87) HT_.out ?_
          refine pureU 28 (some 88) HT_.out ?_
          refine pureA 29 (some 89) HT_.out ?_
          refine pureA 30 (some 4) HT_.out ?_
          refine done_ (done_of HT_.out (by kernel_rfl)) ?_
          try go_wp2
          go_ret
          exact ⟨eqs,puM HB.out GE554.out⟩
        ·rw [if_neg c43] at H
         have c43b0 : decide (t561 ≤ t553) = false:=decide_eq_false c43
         clear c43
         obtain rfl:=Option.some.inj H
         have hcz70_0 : wc.cell? ⟨gb554,0,none⟩ = some (.string t549):=(c_ BK554.out 0).trans rfl
         have hcz70_1 : wc.cell? ⟨gb554,1,none⟩ = some (.slice Ao12 t550.length co12):=(c_ BK554.out 1).trans rfl
         have hfz70_0:=f_ BK554.out 0
         have hfz70_1:=f_ BK554.out 1
         try go_wp2_with (first|((with_reducible refine gate_callee (f:=15) rfl ?_);refine goesL_ (some 58) rfl rfl Tryz.func15 (by kernel_rfl) rfl #[.agg #[.string t549,.slice Ao12 t550.length co12]] rfl lens ?_;(with_reducible refine (impl_StreamOut.calls kj7 t549 _ _ t550 t560 _ ?side1 ?side2 ?side3 A41.out).mono ?_);(case side1=>exact puC (Kd.R_reads' HO_555001.out).2.2);(case side2=>exact (Kd.R_reads' HO_555001.out).2.1);(case side3=>first|(with_reducible exact HG.out)|exact GV_below HG.out (puM HB.out GE554.out));rintro e w71 ⟨rfl,hb⟩;refine ⟨_,rfl,?_⟩;have n0_:=m_ (Kd.R_below (puR HO_555001.out) hb);have n1_:=m_ (blk_below (g:=gb554) (o:=.cells #[.string t549,.slice Ao12 t550.length co12] 25 (0,0)) (puB BK554.out) hb);have n2_:=m_ (l5_ (puM HB.out GE554.out) hb);revert n0_ n1_ n2_;clear HO_555001 BK554 HB;intro HO_555001 BK554 HB;(try clear hb);(try clear hb2);(try clear hk);(try clear hi)))
         have n0_:=m_ (Kd.R_drew HO_555001.out)
         have n1_:=m_ (b2_ BK554.out)
         have n2_:=m_ (l3_ HB.out)
         clear HO_555001
         clear BK554
         clear HB
         have HO_555001:=n0_
         have BK554:=n1_
         have HB:=n2_
         clear n0_ n1_ n2_
         refine start_ (n:=31) (S:=fun w'=>w'.cell? ⟨gb554,0,none⟩ = some (.string t549) ∧ w'.cell? ⟨gb554,1,none⟩ = some (.slice Ao12 t550.length co12)) (ds:=[]) #[false,false,false,false,false,false,false,false,false,false,false,false,false,false,false,false,false,false,false,false,false,false,false,false,false,false,false,false,false,false,false] (by kernel_rfl) rfl rfl ⟨(c_ BK554.out 0).trans rfl,(c_ BK554.out 1).trans rfl⟩ (fun hHeld=>?_);refine with_tabW laws_FnStreamBack.tab9 laws_FnStreamBack.bits9 (fun HT_ HW_=>?_)
         generalize w71.drew = w72 at HO_555001 BK554 HB hHeld ⊢
         refine pureA 1 (some 61) HT_.out ?_
         refine pureA 3 (some 63) HT_.out ?_
         refine takeA 0 (some 60) rfl rfl HT_.out HW_.out hHeld ?_ (by rintro w' ⟨s0,s1⟩;go_simp;with_reducible rfl)
         refine one_ (i:=2) (N:=some 62) #[true,true,true,true,false,false,false,false,false,false,false,false,false,false,false,false,false,false,false,false,false,false,false,false,false,false,false,false,false,false,false] rfl rfl (one_of HT_.out (by kernel_rfl)) (by decide) (fun K hK=>?_)
         refine goes_ Tryz.func9 (by kernel_rfl) rfl #[.agg #[.string t549,.slice Ao12 t550.length co12],.int .i64 t555] (by rfl) rfl rfl lens ?_
         with_reducible refine (impl_StreamFor.calls kj7 t549 _ _ t550 t555 t561 _ ?side1 ?side2 ?side3 A42.out).mono ?_
         (case side1=>exact puC (Kd.R_reads' HO_555001.out).2.2)
         (case side2=>exact (Kd.R_reads' HO_555001.out).2.1)
         (case side3=>first|(with_reducible exact HG.out)|exact GV_below HG.out (puM HB.out GE554.out))
         rintro e w73 ⟨rfl,hb⟩
         refine ⟨_,rfl,?_⟩
         have n0_:=m_ (Kd.R_below (puR HO_555001.out) hb)
         have n1_:=m_ (blk_below (g:=gb554) (o:=.cells #[.string t549,.slice Ao12 t550.length co12] 25 (0,0)) (puB BK554.out) hb)
         have n2_:=m_ (l5_ (puM HB.out GE554.out) hb)
         clear HO_555001
         clear BK554
         clear HB
         have HO_555001:=n0_
         have BK554:=n1_
         have HB:=n2_
         clear n0_ n1_ n2_
         (try clear hb)
         (try clear hb2)
         (try clear hk)
         (try clear hi)
         refine hK.out _ _ ⟨(c_ BK554.out 0).trans rfl,(c_ BK554.out 1).trans rfl⟩ (fun hHeld=>?_)
         clear hK K
         refine norm_ (a':=?_) ?_ ?_
         rotate_left
         ·show Act.put _ (some 62) _ = _
          simp only [Act.put,s1_,s2_,s3_,i64_w,i32_w]
          rfl
         refine pureA 4 (some 64) HT_.out ?_
         refine pureA 5 (some 65) HT_.out ?_
         refine pureU 6 (some 66) HT_.out ?_
         refine pureU 7 (some 67) HT_.out ?_
         refine pureU 8 (some 68) HT_.out ?_
         refine pureU 9 (some 69) HT_.out ?_
         refine pureU 10 (some 70) HT_.out ?_
         refine pureA 11 (some 71) HT_.out ?_
         refine pureA 12 (some 72) HT_.out ?_
         refine pureU 13 (some 73) HT_.out ?_
         refine pureU 14 (some 74) HT_.out ?_
         refine pureU 15 (some 75) HT_.out ?_
         refine pureU 16 (some 76) HT_.out ?_
         refine pureU 17 (some 77) HT_.out ?_
         refine pureU 18 (some 78) HT_.out ?_
         refine pureU 19 (some 79) HT_.out ?_
         refine pureU 20 (some 80) HT_.out ?_
         refine pureU 21 (some 81) HT_.out ?_
         refine pureU 22 (some 82) HT_.out ?_
         refine pureU 23 (some 83) HT_.out ?_
         refine pureA 24 (some 84) HT_.out ?_
         refine pureA 25 (some 85) HT_.out ?_
         refine pureU 26 (some 86) HT_.out ?_
         refine pureU 27 (some 87) HT_.out ?_
         refine pureU 28 (some 88) HT_.out ?_
         refine pureA 29 (some 89) HT_.out ?_
         refine pureA 30 (some 4) HT_.out ?_
         refine done_ (done_of HT_.out (by kernel_rfl)) ?_
         try go_wp2
         go_ret
         exact ⟨eqs,puM HB.out GE554.out⟩

/-- THE ONE PURE STATEMENT of laws_FnStreamBack: yours. -/
def laws_FnStreamBack.Pure : Prop := ∀ (l0 : List Int) (l1 : List Int), l0.length ≤ maxLen → l0.length * 1 ≤ 140737488351232 → (∀ x ∈ l0, (Lit.int .u8 x).wf = true) → l1.length ≤ maxLen → l1.length * 1 ≤ 140737488351232 → (∀ x ∈ l1, (Lit.int .u8 x).wf = true) → ∃ k, laws_FnStreamBack.f k l0 l1 = some true
theorem laws_FnStreamBack.walk (P : laws_FnStreamBack.Pure) (a0 : Option Addr) (len0 cap0 : Nat) (z0 : List Int) (a1 : Option Addr) (len1 cap1 : Nat) (z1 : List Int) (w : World) (hG : GV w) (w0 : (a0 = none ∧ len0 = 0 ∧ cap0 = 0 ∧ z0 = []) ∨ ∃ x, a0 = some x ∧ len0 ≤ cap0 ∧ cap0 ≤ maxLen ∧ z0.length = cap0 ∧ (∀ i, i < z0.length → w.cell? (x.add i) = some (.int .u8 (z0.getD i 0))) ∧ ∀ n ∈ z0, (Lit.int .u8 n).wf = true) (y0 : len0 * 1 ≤ 140737488351232) (w1 : (a1 = none ∧ len1 = 0 ∧ cap1 = 0 ∧ z1 = []) ∨ ∃ x, a1 = some x ∧ len1 ≤ cap1 ∧ cap1 ≤ maxLen ∧ z1.length = cap1 ∧ (∀ i, i < z1.length → w.cell? (x.add i) = some (.int .u8 (z1.getD i 0))) ∧ ∀ n ∈ z1, (Lit.int .u8 n).wf = true) (y1 : len1 * 1 ≤ 140737488351232) :
  Calls Tryz.prog 5 #[.slice a0 len0 cap0,.slice a1 len1 cap1] w fun e w'=>e = .returned (.bool true) ∧ Below w.heap.size w w':=by
 obtain ⟨l0,rfl,hr0,hm0,hw0,hc0⟩:=ReadsInt.ofRowC w0
 obtain ⟨l1,rfl,hr1,hm1,hw1,hc1⟩:=ReadsInt.ofRowC w1
 obtain ⟨k,h⟩:=P l0 l1 hm0 y0 hw0 hm1 y1 hw1
 refine (laws_FnStreamBack.calls k _ _ l0 _ _ l1 true w (Kd.C_of_reads (d:=(0 : Int)) (h1:=fun _=>rfl) hr0) hc0 (Kd.C_of_reads (d:=(0 : Int)) (h1:=fun _=>rfl) hr1) hc1 hG h).mono ?_
 rintro e w' ⟨rfl,hd⟩
 exact ⟨rfl,hd⟩

end Go.Proofs.YtkcjmmhleepjeaaGreatDoor.A
