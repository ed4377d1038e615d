-- Printed by myprint.py (wip/tools) out of the translation. Not trusted: Lean checks it.
import Derived.Test.YtkcjmmhleepjeaaGreatDoorAx0
import Derived.Test.YtkcjmmhleepjeaaGreatDoorAx15
import Derived.Test.YtkcjmmhleepjeaaGreatDoorAx16
import Derived.Test.YtkcjmmhleepjeaaGreatDoorAx21
import Derived.Test.YtkcjmmhleepjeaaGreatDoorAx28
namespace Go.Proofs.YtkcjmmhleepjeaaGreatDoor.A
open Go.RowKit Go.Proofs.YtkcjmmhleepjeaaGreatDoorW.PrintWords Go.Proofs.YtkcjmmhleepjeaaGreatDoorW.PrintLast Go.Proofs.YtkcjmmhleepjeaaGreatDoorW.PrintMore
attribute [local go_sem] max2_int min2_int max_two min_two max_three min_three max_four min_four
set_option linter.unusedVariables false
set_option linter.unusedSimpArgs false

theorem C_takeE {β : Type} {k : Kd β} {w : World} {A : Option Addr} {y l : List β} {m : Nat} (hy : y = l.take m) (h : Kd.C k w A l.length l) (hm : m ≤ l.length) : Kd.C k w A y.length y := by
 subst hy;exact Kd.C_take h hm
/-! ### laws_FnStreamOut: function 6 -/
mutual
def laws_FnStreamOut.j0 : Nat → List Int → List Int → Bool → Option (Bool)
 | 0, _, _, _ => none
 | k + 1, x0, x1, x18 => if x18 = true then (some true) else ((spec_DrawStreamOut.f k x0).bind fun bt591 => ((impl_StreamOut.f k bt591.1 bt591.2).bind fun t596 => ((spec_StreamOut.f k bt591.1 bt591.2).bind fun t597 => (if t596.toList = t597.toList then ((spec_StreamOk.f k bt591.1 bt591.2).bind fun t598 => (laws_FnStreamOut.j1 k x1 t596 (!t598) bt591.1 bt591.2)) else (laws_FnStreamOut.j1 k x1 t596 true bt591.1 bt591.2)))))
def laws_FnStreamOut.j1 : Nat → List Int → ByteArray → Bool → ByteArray → List (S31) → Option (Bool)
 | 0, _, _, _, _, _ => none
 | k + 1, x1, x6, x31, x596000, x596001 => if x31 = true then ((spec_StreamOut.f k x596000 x596001).bind fun t599 => (some (x6.toList == t599.toList))) else (laws_FnStreamOut.l0 k x1 x6 (⟨#[]⟩ : ByteArray) 0 x596000 x596001)
def laws_FnStreamOut.l0 : Nat → List Int → ByteArray → ByteArray → Int → ByteArray → List (S31) → Option (Bool)
 | 0, _, _, _, _, _, _ => none
 | k + 1, x1, x6, x7, x8, x596000, x596001 => if x8 < (x596001.length : Int) then (if 0 ≤ x8 then (if x7.size + ((rd_T31 x596001 x8).f1).size ≤ 9223372036854775807 then (laws_FnStreamOut.l0 k x1 x6 (x7 ++ ((rd_T31 x596001 x8).f1)) (wrap64 (x8 + 1)) x596000 x596001) else (none)) else (none)) else (if (wrap64 ((x596000.size : Int) + 1)) = 0 then (none) else (if 0 ≤ ((x1.length : Int) % (wrap64 ((x596000.size : Int) + 1))) then (if ((x1.length : Int) % (wrap64 ((x596000.size : Int) + 1))) ≤ (x596000.size : Int) then ((impl_TextPieces.f k (x596000.extract 0 (((x1.length : Int) % (wrap64 ((x596000.size : Int) + 1))) : Int).toNat)).bind fun t601 => (if 0 ≤ (t601.length : Int) then (if (t601.length : Int) ≤ (x596001.length : Int) then ((some (x596001.take ((t601.length : Int) : Int).toNat : List (S31))).bind fun y604 => (if x6.toList = x7.toList then ((impl_StreamOut.f k (x596000.extract 0 (((x1.length : Int) % (wrap64 ((x596000.size : Int) + 1))) : Int).toNat) y604).bind fun t609 => ((laws_lzBegins.f t609 x6).bind fun t610 => (if t610 = true then ((impl_StreamOk.f k (x596000.extract 0 (((x1.length : Int) % (wrap64 ((x596000.size : Int) + 1))) : Int).toNat) y604).bind fun t611 => (some t611)) else (some false)))) else (some false))) else (none)) else (none))) else (none)) else (none)))
end
def laws_FnStreamOut.f (k : Nat) (l0 : List Int) (l1 : List Int) : Option (Bool) := if (l0.length : Int) > 1048576 then (laws_FnStreamOut.j0 k l0 l1 true) else (laws_FnStreamOut.j0 k l0 l1 (decide ((l1.length : Int) > 1048576)))
theorem laws_FnStreamOut.mono_l : ∀ k, (∀ y0 y1 y2, LeO (laws_FnStreamOut.j0 k y0 y1 y2) (laws_FnStreamOut.j0 (k + 1) y0 y1 y2)) ∧ (∀ y0 y1 y2 y3 y4, LeO (laws_FnStreamOut.j1 k y0 y1 y2 y3 y4) (laws_FnStreamOut.j1 (k + 1) y0 y1 y2 y3 y4)) ∧ (∀ y0 y1 y2 y3 y4 y5, LeO (laws_FnStreamOut.l0 k y0 y1 y2 y3 y4 y5) (laws_FnStreamOut.l0 (k + 1) y0 y1 y2 y3 y4 y5))
 | 0 => ⟨fun _ _ _ r h => by simp [laws_FnStreamOut.j0] at h, fun _ _ _ _ _ r h => by simp [laws_FnStreamOut.j1] at h, fun _ _ _ _ _ _ r h => by simp [laws_FnStreamOut.l0] at h⟩
 | k + 1 => by
  obtain ⟨ih0,ih1,ih2⟩:=laws_FnStreamOut.mono_l k
  refine ⟨?_,?_,?_⟩
  ·intro y0 y1 y2
   unfold laws_FnStreamOut.j0
   exact leo9 ih0 ih1 ih2 impl_StreamOk.mono impl_StreamOut.mono impl_TextPieces.mono spec_DrawStreamOut.mono spec_StreamOk.mono spec_StreamOut.mono
  ·intro y0 y1 y2 y3 y4
   unfold laws_FnStreamOut.j1
   exact leo9 ih0 ih1 ih2 impl_StreamOk.mono impl_StreamOut.mono impl_TextPieces.mono spec_DrawStreamOut.mono spec_StreamOk.mono spec_StreamOut.mono
  ·intro y0 y1 y2 y3 y4 y5
   unfold laws_FnStreamOut.l0
   exact leo9 ih0 ih1 ih2 impl_StreamOk.mono impl_StreamOut.mono impl_TextPieces.mono spec_DrawStreamOut.mono spec_StreamOk.mono spec_StreamOut.mono
theorem laws_FnStreamOut.mono : ∀ a0 a1 k, LeO (laws_FnStreamOut.f k a0 a1) (laws_FnStreamOut.f (k + 1) a0 a1) := by
 intro a0 a1 k
 obtain ⟨ih0,ih1,ih2⟩:=laws_FnStreamOut.mono_l k
 unfold laws_FnStreamOut.f
 exact leo9 ih0 ih1 ih2 impl_StreamOk.mono impl_StreamOut.mono impl_TextPieces.mono spec_DrawStreamOut.mono spec_StreamOk.mono spec_StreamOut.mono
def laws_FnStreamOut.T13 : Bool × List (List Nat × List Nat) := (true, [([], []), ([0], [0]), ([], []), ([1, 2], [1, 2]), ([], []), ([4], [4]), ([], []), ([6], [6]), ([], []), ([7, 8], [7, 8]), ([9], [9]), ([10], [10]), ([5, 11], [5, 11]), ([3, 12], [3, 12]), ([], []), ([14, 13, 10, 0, 1, 2, 3, 4, 5, 6, 7, 8, 9, 10, 11, 12, 13, 14], [13, 14])])
def laws_FnStreamOut.B13 : List Nat := [0, 1, 0, 7, 0, 16, 0, 64, 0, 448, 960, 1984, 4080, 8191, 0, 32767]
theorem laws_FnStreamOut.tab13 : rtab .any (opsOf Tryz.f6 13) = laws_FnStreamOut.T13 := by kernel_rfl
theorem laws_FnStreamOut.bits13 : waitsOk laws_FnStreamOut.T13.2 laws_FnStreamOut.B13 = true := by kernel_rfl
set_option maxHeartbeats 8000000 in
set_option maxRecDepth 100000 in
theorem laws_FnStreamOut.calls (k : Nat) (A0 : Option Addr) (c0 : Nat) (l0 : List Int) (A1 : Option Addr) (c1 : Nat) (l1 : List Int) (r : Bool) (w : World) (hr0 : Kd.C (Kd.int .u8) w A0 l0.length l0) (hc0 : l0.length ≤ c0) (hr1 : Kd.C (Kd.int .u8) w A1 l1.length l1) (hc1 : l1.length ≤ c1) (hG : GV w) (h : laws_FnStreamOut.f k l0 l1 = some r) :
  Calls Tryz.prog 6 #[.slice A0 l0.length c0,.slice A1 l1.length c1] w fun e w'=>e = .returned (.bool r) ∧ Below w.heap.size w w':=by
 have hu25:=Tryz.underlying25
 have HG:=m_ hG
 clear hG
 have HR0:=m_ hr0
 have HC0:=m_ hc0
 clear hr0 hc0
 have HR1:=m_ hr1
 have HC1:=m_ hc1
 clear hr1 hc1
 have HB:=m_ (Below.refl w.heap.size w)
 have H : (if (l0.length : Int) > 1048576 then (laws_FnStreamOut.j0 k l0 l1 true) else (laws_FnStreamOut.j0 k l0 l1 (decide ((l1.length : Int) > 1048576)))) = some r:=h
 clear h
 have HC3:=m_ H
 clear H
 go_enter Tryz.func6,Tryz.ntmps6
 go_upto_region 1 with (fail)
 go_cut [18] (fun v18 wc=>∃ (kq : Nat) (x18_2 : Bool),v18 = .bool x18_2 ∧ Aside0 (laws_FnStreamOut.j0 kq l0 l1 x18_2 = some r) ∧ Aside0 (kq ≤ k) ∧ Aside0 (Below w.heap.size w wc))
 case first =>
  have H:=HC3.out
  clear HC3
  by_cases c4 : (l0.length : Int) > 1048576
  ·rw [if_pos c4] at H
   have c4b0 : decide (1048576 < (l0.length : Int)) = true:=decide_eq_true c4
   have c4b1 : decide (1048576 < l0.length) = true:=decide_eq_true (by omega)
   clear c4
   (first|rw [c4b0]|(simp only [i64_w,i32_w];rw [c4b0])|skip)
   have H':=m_ H
   clear H
   go_wp2
   go_meet
   case rel=>exact ⟨_,(true),(by first|rfl|(simp;done)|(simp [*];done)),H',⟨by first|omega|exact Nat.le_refl _⟩,⟨puL HB.out⟩⟩
  ·rw [if_neg c4] at H
   have c4b0 : decide (1048576 < (l0.length : Int)) = false:=decide_eq_false c4
   have c4b1 : decide (1048576 < l0.length) = false:=decide_eq_false (by omega)
   clear c4
   (first|rw [c4b0]|(simp only [i64_w,i32_w];rw [c4b0])|skip)
   have H':=m_ H
   clear H
   go_wp2
   go_meet
   case rel=>exact ⟨_,(decide ((l1.length : Int) > 1048576)),(by first|rfl|(simp;done)|(simp [*];done)),H',⟨by first|omega|exact Nat.le_refl _⟩,⟨puL HB.out⟩⟩
 case rest =>
  clear HC3
  try clear c1
  try clear p2
  try clear c4
  try clear c4b0
  try clear c4b1
  obtain ⟨kq,x18_2,rfl,HA,HJ2,HB⟩:=hcut
  cases kq with
  | zero => exact absurd HA.out (by simp [laws_FnStreamOut.j0])
  | succ kj2 =>
   have H:=HA.out
   clear HA
   simp only [laws_FnStreamOut.j0] at H
   by_cases c5 : x18_2 = true
   ·subst c5
    replace H:=ifp H rfl
    obtain rfl:=Option.some.inj H
    go_wp2
    go_ret
    exact ⟨eqs,puL HB.out⟩
   ·replace c5:=Bool.eq_false_iff.mpr c5
    subst c5
    replace H:=ifn H
    replace H:=Option.bind_eq_some_iff.mp H
    obtain ⟨⟨t591,t592⟩,A60,H⟩:=H
    replace H : ((impl_StreamOut.f kj2 t591 t592).bind fun t596=>((spec_StreamOut.f kj2 t591 t592).bind fun t597=>(if t596.toList = t597.toList then ((spec_StreamOk.f kj2 t591 t592).bind fun t598=>(laws_FnStreamOut.j1 kj2 l1 t596 (!t598) t591 t592)) else (laws_FnStreamOut.j1 kj2 l1 t596 true t591 t592)))) = some r:=H
    have A6:=m_ A60
    clear A60
    replace H:=Option.bind_eq_some_iff.mp H
    obtain ⟨t596,A70,H⟩:=H
    have A7:=m_ A70
    clear A70
    have HC8:=m_ H
    clear H
    go_upto_region 5 with (first|((with_reducible refine gate_callee (f:=17) rfl ?_);refine goesL_ (some 20) rfl rfl Tryz.func17 (by kernel_rfl) rfl #[.slice A0 l0.length c0] rfl lens ?_;(with_reducible refine (spec_DrawStreamOut.calls kj2 _ _ l0 t591 t592 _ ?side1 ?side2 A6.out).mono ?_);(case side1=>exact puC (Kd.C_below HR0.out HB.out));(case side2=>exact HC0.out);rintro e w9 ⟨v593,rfl,ho0,hb⟩;refine ⟨_,rfl,?_⟩;have n0_:=m_ (Kd.R_lower ho0 (l6_ (puL HB.out)));have n1_:=m_ (l5_ (puL HB.out) hb);revert n0_ n1_;clear HB;intro HO594 HB;(try clear hb);(try clear hb2);(try clear hk);(try clear hi);(try clear ho0))|((with_reducible refine gate_dst (N:=5) rfl ?_);(try (refine gate_guard (by rfl) ?_;dsimp only));refine box_event ?hg (N:=5) ?hd (cs:=#[.string (⟨#[]⟩ : ByteArray),.slice none 0 0]) (t:=25) ?hr ?_;(case hd=>rfl);(case hg=>rfl);(case hr=>first|(go_simp;done)|(go_simp;rfl));intro gb595 hg w10 hbox hb;have n0_:=m_ (Kd.R_below (puR HO594.out) hb);have n1_:=m_ (l5_ (puL HB.out) hb);have n2_:=m_ (hbox);have n3_:=m_ ((by rw [hg];exact (l6_ (puL HB.out)) : w.heap.size ≤ gb595));have n4_:=m_ ((by rw [hg];exact (l6_ (puL HB.out)) : w.heap.size ≤ gb595));revert n0_ n1_ n2_ n3_ n4_;clear HO594 HB;intro HO594 HB BK595 GW595 GE595;clear hb hbox hg;have hcz11_0 : w10.cell? ⟨gb595,0,none⟩ = some (.string (⟨#[]⟩ : ByteArray)):=(c_ BK595.out 0).trans rfl;have hcz11_1 : w10.cell? ⟨gb595,1,none⟩ = some (.slice none 0 0):=(c_ BK595.out 1).trans rfl;have hfz11_0:=f_ BK595.out 0;have hfz11_1:=f_ BK595.out 1;obtain ⟨Ao12,co12,eo12⟩:=Kd.R_slice HO594.out;subst eo12)|((with_reducible refine gate_callee (f:=15) rfl ?_);refine goesL_ (some 22) rfl rfl Tryz.func15 (by kernel_rfl) rfl #[.agg #[.string t591,.slice Ao12 t592.length co12]] rfl lens ?_;(with_reducible refine (impl_StreamOut.calls kj2 t591 _ _ t592 t596 _ ?side1 ?side2 ?side3 A7.out).mono ?_);(case side1=>refine (Kd.R_reads' (e:=31) (base:=w.heap.size) (ok:=fun k_=>True) (n:=t592.length) (c:=co12) ?_).2.2;exact (by (with_reducible repeat (first|apply Kd.R_alloc|apply Kd.R_drewN|apply Kd.R_drew));exact (Kd.R_mono (Kd.R_far (p:=⟨gb595,1,none⟩) (Kd.R_far (p:=⟨gb595,0,none⟩) (Kd.R_types HO594.out BK595.out (by decide)) (fun _ hk=>hk.2) (.string t591)) (fun _ hk=>hk.2) (.slice Ao12 t592.length co12)) (fun _ h_=>h_.1))));(case side2=>exact (Kd.R_reads' HO594.out).2.1);(case side3=>first|(with_reducible exact HG.out)|exact GV_below HG.out (puM HB.out GE595.out));rintro e w13 ⟨rfl,hb⟩;refine ⟨_,rfl,?_⟩;have n0_:=m_ (Kd.R_below (by (with_reducible repeat (first|apply Kd.R_alloc|apply Kd.R_drewN|apply Kd.R_drew));exact (Kd.R_mono (Kd.R_far (p:=⟨gb595,1,none⟩) (Kd.R_far (p:=⟨gb595,0,none⟩) (Kd.R_types HO594.out BK595.out (by decide)) (fun _ hk=>hk.2) (.string t591)) (fun _ hk=>hk.2) (.slice Ao12 t592.length co12)) (fun _ h_=>h_.1))) hb);have n1_:=m_ (blk_below (g:=gb595) (o:=.cells #[.string t591,.slice Ao12 t592.length co12] 25 (0,0)) (by (with_reducible repeat first|apply b1_|apply b2_|apply b3_);refine blk_put (cs:=#[.string t591,.slice none 0 0]) ?_ 1 _ rfl;(with_reducible repeat first|apply b1_|apply b2_|apply b3_);refine blk_put (cs:=#[.string (⟨#[]⟩ : ByteArray),.slice none 0 0]) ?_ 0 _ rfl;(with_reducible repeat first|apply b1_|apply b2_|apply b3_);exact BK595.out) hb);have n2_:=m_ (l5_ (puM HB.out GE595.out) hb);revert n0_ n1_ n2_;clear HO594 BK595 HB;intro HO594 BK595 HB;(try clear hb);(try clear hb2);(try clear hk);(try clear hi)))
    (try simp only [Act.put,s1_,s2_,s3_])
    go_cut [31] (fun v31 wc=>∃ (kq : Nat) (x31_7 : Bool),v31 = .bool x31_7 ∧ Aside0 (laws_FnStreamOut.j1 kq l1 t596 x31_7 t591 t592 = some r) ∧ Aside0 (kq ≤ kj2) ∧ Aside0 (Kd.R k31 31 wc w.heap.size (fun _=>True) (.slice Ao12 t592.length co12) t592) ∧ Aside0 (wc.heap[gb595]? = some (.cells #[.string t591,(.slice Ao12 t592.length co12)] 25 (0,0))) ∧ Aside0 (Below w.heap.size w wc))
    case first =>
     have H:=HC8.out
     clear HC8
     replace H:=Option.bind_eq_some_iff.mp H
     obtain ⟨t597,A140,H⟩:=H
     have A14:=m_ A140
     clear A140
     by_cases c15 : t596.toList = t597.toList
     ·rw [if_pos c15] at H
      have c15b0 : (t596.toList == t597.toList) = true:=beq_iff_eq.mpr c15
      have c15b1 : (t596.toList != t597.toList) = false:=bne_eq_false_iff_eq.mpr c15
      clear c15
      (first|rw [c15b0]|(simp only [i64_w,i32_w];rw [c15b0])|skip)
      replace H:=Option.bind_eq_some_iff.mp H
      obtain ⟨t598,A160,H⟩:=H
      have A16:=m_ A160
      clear A160
      have H':=m_ H
      clear H
      have hcz17_0 : w13.cell? ⟨gb595,0,none⟩ = some (.string t591):=(c_ BK595.out 0).trans rfl
      have hcz17_1 : w13.cell? ⟨gb595,1,none⟩ = some (.slice Ao12 t592.length co12):=(c_ BK595.out 1).trans rfl
      have hfz17_0:=f_ BK595.out 0
      have hfz17_1:=f_ BK595.out 1
      go_wp2_with (first|((with_reducible refine gate_callee (f:=18) rfl ?_);refine goesL_ (some 25) rfl rfl Tryz.func18 (by kernel_rfl) rfl #[.agg #[.string t591,.slice Ao12 t592.length co12]] rfl lens ?_;(with_reducible refine (spec_StreamOut.calls kj2 t591 _ _ t592 t597 _ ?side1 ?side2 A14.out).mono ?_);(case side1=>exact puC (Kd.R_reads' HO594.out).2.2);(case side2=>exact (Kd.R_reads' HO594.out).2.1);rintro e w18 ⟨rfl,hb⟩;refine ⟨_,rfl,?_⟩;have n0_:=m_ (Kd.R_below (puR HO594.out) hb);have n1_:=m_ (blk_below (g:=gb595) (o:=.cells #[.string t591,.slice Ao12 t592.length co12] 25 (0,0)) (puB BK595.out) hb);have n2_:=m_ (l5_ (puM HB.out GE595.out) hb);revert n0_ n1_ n2_;clear HO594 BK595 HB;intro HO594 BK595 HB;(try clear hb);(try clear hb2);(try clear hk);(try clear hi);have hcz19_0 : w18.cell? ⟨gb595,0,none⟩ = some (.string t591):=(c_ BK595.out 0).trans rfl;have hcz19_1 : w18.cell? ⟨gb595,1,none⟩ = some (.slice Ao12 t592.length co12):=(c_ BK595.out 1).trans rfl;have hfz19_0:=f_ BK595.out 0;have hfz19_1:=f_ BK595.out 1)|(go_at_call 11;(with_reducible refine (spec_StreamOk.calls kj2 t591 _ _ t592 t598 _ ?side1 ?side2 A16.out).mono ?_);(case side1=>exact puC (Kd.R_reads' HO594.out).2.2);(case side2=>exact (Kd.R_reads' HO594.out).2.1);rintro e w20 ⟨rfl,hb⟩;have n0_:=m_ (Kd.R_below (puR HO594.out) hb);have n1_:=m_ (blk_below (g:=gb595) (o:=.cells #[.string t591,.slice Ao12 t592.length co12] 25 (0,0)) (puB BK595.out) hb);have n2_:=m_ (l5_ (puM HB.out GE595.out) hb);revert n0_ n1_ n2_;clear HO594 BK595 HB;intro HO594 BK595 HB;(try clear hb);(try clear hb2);(try clear hk);(try clear hi)))
      go_meet
      case rel=>exact ⟨_,(!t598),(by first|rfl|(simp;done)|(simp [*];done)),H',⟨by have:=HJ2.out;first|omega|exact Nat.le_refl _⟩,⟨by (with_reducible repeat (first|apply Kd.R_alloc|apply Kd.R_drewN|apply Kd.R_drew));exact HO594.out⟩,⟨by (with_reducible repeat first|apply b1_|apply b2_|apply b3_);exact BK595.out⟩,⟨puM HB.out GE595.out⟩⟩
     ·rw [if_neg c15] at H
      have c15b0 : (t596.toList == t597.toList) = false:=beq_eq_false_iff_ne.mpr c15
      have c15b1 : (t596.toList != t597.toList) = true:=bne_iff_ne.mpr c15
      (first|rw [c15b0]|(simp only [i64_w,i32_w];rw [c15b0])|skip)
      have H':=m_ H
      clear H
      have hcz21_0 : w13.cell? ⟨gb595,0,none⟩ = some (.string t591):=(c_ BK595.out 0).trans rfl
      have hcz21_1 : w13.cell? ⟨gb595,1,none⟩ = some (.slice Ao12 t592.length co12):=(c_ BK595.out 1).trans rfl
      have hfz21_0:=f_ BK595.out 0
      have hfz21_1:=f_ BK595.out 1
      go_wp2_with (first|((with_reducible refine gate_callee (f:=18) rfl ?_);refine goesL_ (some 25) rfl rfl Tryz.func18 (by kernel_rfl) rfl #[.agg #[.string t591,.slice Ao12 t592.length co12]] rfl lens ?_;(with_reducible refine (spec_StreamOut.calls kj2 t591 _ _ t592 t597 _ ?side1 ?side2 A14.out).mono ?_);(case side1=>exact puC (Kd.R_reads' HO594.out).2.2);(case side2=>exact (Kd.R_reads' HO594.out).2.1);rintro e w22 ⟨rfl,hb⟩;refine ⟨_,rfl,?_⟩;have n0_:=m_ (Kd.R_below (puR HO594.out) hb);have n1_:=m_ (blk_below (g:=gb595) (o:=.cells #[.string t591,.slice Ao12 t592.length co12] 25 (0,0)) (puB BK595.out) hb);have n2_:=m_ (l5_ (puM HB.out GE595.out) hb);revert n0_ n1_ n2_;clear HO594 BK595 HB;intro HO594 BK595 HB;(try clear hb);(try clear hb2);(try clear hk);(try clear hi)))
      go_meet
      case rel=>exact ⟨_,(true),(by first|rfl|(simp;done)|(simp [*];done)),H',⟨by have:=HJ2.out;first|omega|exact Nat.le_refl _⟩,⟨by (with_reducible repeat (first|apply Kd.R_alloc|apply Kd.R_drewN|apply Kd.R_drew));exact HO594.out⟩,⟨by (with_reducible repeat first|apply b1_|apply b2_|apply b3_);exact BK595.out⟩,⟨puM HB.out GE595.out⟩⟩
    case rest =>
     clear HC8
     try clear c1
     try clear p2
     try clear c4
     try clear c4b0
     try clear c4b1
     try clear c5
     try clear c6
     try clear c15
     try clear c15b0
     try clear c15b1
     try clear c17
     try clear c18
     try clear hcz11_0
     try clear hcz11_1
     try clear hcz17_0
     try clear hcz17_1
     try clear hcz19_0
     try clear hcz19_1
     try clear hcz21_0
     try clear hcz21_1
     try clear hfz11_0
     try clear hfz11_1
     try clear hfz17_0
     try clear hfz17_1
     try clear hfz19_0
     try clear hfz19_1
     try clear hfz21_0
     try clear hfz21_1
     try clear p2
     obtain ⟨kq,x31_7,rfl,HA,HJ7,HO_596001,BK595,HB⟩:=hcut
     cases kq with
     | zero => exact absurd HA.out (by simp [laws_FnStreamOut.j1])
     | succ kj7 =>
      have H:=HA.out
      clear HA
      simp only [laws_FnStreamOut.j1] at H
      by_cases c23 : x31_7 = true
      ·subst c23
       replace H:=ifp H rfl
       replace H:=Option.bind_eq_some_iff.mp H
       obtain ⟨t599,A240,H⟩:=H
       have A24:=m_ A240
       clear A240
       obtain rfl:=Option.some.inj H
       have hcz25_0 : wc.cell? ⟨gb595,0,none⟩ = some (.string t591):=(c_ BK595.out 0).trans rfl
       have hcz25_1 : wc.cell? ⟨gb595,1,none⟩ = some (.slice Ao12 t592.length co12):=(c_ BK595.out 1).trans rfl
       have hfz25_0:=f_ BK595.out 0
       have hfz25_1:=f_ BK595.out 1
       go_wp2_with (first|((with_reducible refine gate_callee (f:=18) rfl ?_);refine goesL_ (some 34) rfl rfl Tryz.func18 (by kernel_rfl) rfl #[.agg #[.string t591,.slice Ao12 t592.length co12]] rfl lens ?_;(with_reducible refine (spec_StreamOut.calls kj7 t591 _ _ t592 t599 _ ?side1 ?side2 A24.out).mono ?_);(case side1=>exact puC (Kd.R_reads' HO_596001.out).2.2);(case side2=>exact (Kd.R_reads' HO_596001.out).2.1);rintro e w26 ⟨rfl,hb⟩;refine ⟨_,rfl,?_⟩;have n0_:=m_ (Kd.R_below (puR HO_596001.out) hb);have n1_:=m_ (blk_below (g:=gb595) (o:=.cells #[.string t591,.slice Ao12 t592.length co12] 25 (0,0)) (puB BK595.out) hb);have n2_:=m_ (l5_ (puM HB.out GE595.out) hb);revert n0_ n1_ n2_;clear HO_596001 BK595 HB;intro HO_596001 BK595 HB;(try clear hb);(try clear hb2);(try clear hk);(try clear hi)))
       go_ret
       exact ⟨eqs,puM HB.out GE595.out⟩
      ·replace c23:=Bool.eq_false_iff.mpr c23
       subst c23
       replace H:=ifn H
       have H':=m_ H
       clear H
       go_wp2
       go_loopg [7,8] kj7 (fun kq v7 v8 w'=>∃ (x7_3 : ByteArray) (x8_3 : Int),v7 = .string x7_3 ∧ v8 = .int .i64 x8_3 ∧ Aside0 (laws_FnStreamOut.l0 kq l1 t596 x7_3 x8_3 t591 t592 = some r) ∧ Aside0 (kq ≤ kj7) ∧ Aside0 (Kd.R k31 31 w' w.heap.size (fun _=>True) (.slice Ao12 t592.length co12) t592) ∧ Aside0 (w'.heap[gb595]? = some (.cells #[.string t591,(.slice Ao12 t592.length co12)] 25 (0,0))) ∧ Aside0 (Below w.heap.size w w'))
       case atStart=>exact ⟨((⟨#[]⟩ : ByteArray)),(0),(by first|rfl|(simp;done)|(simp [*];done)),(by first|rfl|(simp;done)|(simp [*];done)),H',⟨Nat.le_refl _⟩,⟨by (with_reducible repeat (first|apply Kd.R_alloc|apply Kd.R_drewN|apply Kd.R_drew));exact HO_596001.out⟩,⟨by (with_reducible repeat first|apply b1_|apply b2_|apply b3_);exact BK595.out⟩,⟨puM HB.out GE595.out⟩⟩
       case round =>
        clear H'
        try clear c1
        try clear c2
        try clear p2
        try clear c4
        try clear c4b0
        try clear c4b1
        try clear c5
        try clear c6
        try clear c15
        try clear c15b0
        try clear c15b1
        try clear c17
        try clear c18
        try clear c23
        try clear hcz11_0
        try clear hcz11_1
        try clear hcz17_0
        try clear hcz17_1
        try clear hcz19_0
        try clear hcz19_1
        try clear hcz21_0
        try clear hcz21_1
        try clear hcz25_0
        try clear hcz25_1
        try clear hfz11_0
        try clear hfz11_1
        try clear hfz17_0
        try clear hfz17_1
        try clear hfz19_0
        try clear hfz19_1
        try clear hfz21_0
        try clear hfz21_1
        try clear hfz25_0
        try clear hfz25_1
        try clear p2
        obtain ⟨x7_3,x8_3,rfl,rfl,HA,HK3,HO_596001,BK595,HB⟩:=hrel
        cases gk with
        | zero => exact absurd HA.out (by simp [laws_FnStreamOut.l0])
        | succ k3 =>
         have H:=HA.out
         clear HA
         simp only [laws_FnStreamOut.l0] at H
         by_cases c27 : x8_3 < (t592.length : Int)
         ·rw [if_pos c27] at H
          have c27b0 : decide (x8_3 < (t592.length : Int)) = true:=decide_eq_true c27
          clear c27
          by_cases c28 : 0 ≤ x8_3
          rotate_left
          ·rw [if_neg c28] at H
           exact absurd H (by simp)
          rw [if_pos c28] at H
          have c28b0 : decide (0 ≤ x8_3) = true:=decide_eq_true c28
          clear c28
          by_cases c29 : x7_3.size + ((rd_T31 t592 x8_3).f1).size ≤ 9223372036854775807
          rotate_left
          ·rw [if_neg c29] at H
           exact absurd H (by simp)
          rw [if_pos c29] at H
          have c29b0:=eq_true c29
          have c29b1:=decide_eq_true c29
          try have c29b2 : (9223372036854775807 < x7_3.size + ((rd_T31 t592 x8_3).f1).size) = False:=eq_false (Nat.not_lt.2 c29)
          have H':=m_ H
          clear H
          have hcz30_0 : wr.cell? ⟨gb595,0,none⟩ = some (.string t591):=(c_ BK595.out 0).trans rfl
          have hcz30_1 : wr.cell? ⟨gb595,1,none⟩ = some (.slice Ao12 t592.length co12):=(c_ BK595.out 1).trans rfl
          have hfz30_0:=f_ BK595.out 0
          have hfz30_1:=f_ BK595.out 1
          have p600 : 0 ≤ (x8_3 : Int):=of_decide_eq_true asm
          have q600 : x8_3 < (t592.length : Int):=of_decide_eq_true asm
          obtain ⟨ad600,e600,hx600_0,hx600_1⟩:=at_T31 (Kd.R_reads' HO_596001.out).2.2 x8_3 p600 q600
          cases e600
          replace p600:=eq_true p600
          replace q600:=eq_true q600
          go_wp2
          go_roundg k3
          case measure=>have:=HJ2.out;have:=HJ7.out;have:=HK3.out;omega
          case rel=>exact ⟨(x7_3 ++ ((rd_T31 t592 x8_3).f1)),(wrap64 (x8_3 + 1)),(by first|rfl|(simp;done)|(simp [*];done)),(by first|rfl|(simp;done)|(simp [*];done)),H',⟨by have:=HJ2.out;have:=HJ7.out;have:=HK3.out;omega⟩,⟨by (with_reducible repeat (first|apply Kd.R_alloc|apply Kd.R_drewN|apply Kd.R_drew));exact HO_596001.out⟩,⟨by (with_reducible repeat first|apply b1_|apply b2_|apply b3_);exact BK595.out⟩,⟨puM HB.out GE595.out⟩⟩
         ·rw [if_neg c27] at H
          have c27b0 : decide (x8_3 < (t592.length : Int)) = false:=decide_eq_false c27
          clear c27
          by_cases c31 : (wrap64 ((t591.size : Int) + 1)) = 0
          ·rw [if_pos c31] at H
           exact absurd H (by simp)
          ·rw [if_neg c31] at H
           have c31b0 : ((wrap64 ((t591.size : Int) + 1)) == 0) = false:=beq_eq_false_iff_ne.mpr c31
           have c31b1 : ((wrap64 ((t591.size : Int) + 1)) != 0) = true:=bne_iff_ne.mpr c31
           obtain ⟨ji32,hji32⟩ : ∃ j_ : Int,((l1.length : Int) % (wrap64 ((t591.size : Int) + 1))) = j_:=⟨_,rfl⟩
           replace H : (if 0 ≤ (ji32) then (if (ji32) ≤ (t591.size : Int) then ((impl_TextPieces.f k3 (t591.extract 0 ((ji32) : Int).toNat)).bind fun t601=>(if 0 ≤ (t601.length : Int) then (if (t601.length : Int) ≤ (t592.length : Int) then ((some (t592.take ((t601.length : Int) : Int).toNat : List (S31))).bind fun y604=>(if t596.toList = x7_3.toList then ((impl_StreamOut.f k3 (t591.extract 0 ((ji32) : Int).toNat) y604).bind fun t609=>((laws_lzBegins.f t609 t596).bind fun t610=>(if t610 = true then ((impl_StreamOk.f k3 (t591.extract 0 ((ji32) : Int).toNat) y604).bind fun t611=>(some t611)) else (some false)))) else (some false))) else (none)) else (none))) else (none)) else (none)) = some r:=by first|(rw [hji32] at H;exact H)|(simp only [hji32] at H ⊢;exact H)
           by_cases c33 : 0 ≤ (ji32)
           rotate_left
           ·rw [if_neg c33] at H
            exact absurd H (by simp)
           rw [if_pos c33] at H
           have c33b0:=eq_true c33
           have c33b1:=decide_eq_true c33
           clear c33
           by_cases c34 : (ji32) ≤ (t591.size : Int)
           rotate_left
           ·rw [if_neg c34] at H
            exact absurd H (by simp)
           rw [if_pos c34] at H
           have c34b0:=eq_true c34
           have c34b1:=decide_eq_true c34
           clear c34
           have c35b0:=eq_true (of_decide_eq_true asm : 0 ≤ (ji32))
           have c36b0:=eq_true (of_decide_eq_true asm : (ji32) ≤ (t591.size : Int))
           replace H:=Option.bind_eq_some_iff.mp H
           obtain ⟨t601,A370,H⟩:=H
           have A37:=m_ A370
           clear A370
           by_cases c38 : 0 ≤ (t601.length : Int)
           rotate_left
           ·rw [if_neg c38] at H
            exact absurd H (by simp)
           rw [if_pos c38] at H
           have c38b0:=eq_true c38
           have c38b1:=decide_eq_true c38
           clear c38
           by_cases c39 : (t601.length : Int) ≤ (t592.length : Int)
           rotate_left
           ·rw [if_neg c39] at H
            exact absurd H (by simp)
           rw [if_pos c39] at H
           have c39b0:=eq_true c39
           have c39b1:=decide_eq_true c39
           clear c39
           obtain ⟨y604,hy604⟩ : ∃ y_ : List (S31),y_ = (t592.take ((t601.length : Int) : Int).toNat):=⟨_,rfl⟩
           replace H : (if t596.toList = x7_3.toList then ((impl_StreamOut.f k3 (t591.extract 0 ((ji32) : Int).toNat) y604).bind fun t609=>((laws_lzBegins.f t609 t596).bind fun t610=>(if t610 = true then ((impl_StreamOk.f k3 (t591.extract 0 ((ji32) : Int).toNat) y604).bind fun t611=>(some t611)) else (some false)))) else (some false)) = some r:=by first|(rw [hy604];with_reducible exact H)|(have H2_:=(Option.bind_some _ _).symm.trans H;rw [hy604];with_reducible exact H2_)|(have H2_:=(Option.bind_some _ _).symm.trans H;with_reducible exact H2_)|with_reducible exact H|(rw [hy604];exact H)|exact H
           have Ny604:=m_ hy604
           clear hy604
           by_cases c40 : t596.toList = x7_3.toList
           ·rw [if_pos c40] at H
            have c40b0 : (t596.toList == x7_3.toList) = true:=beq_iff_eq.mpr c40
            have c40b1 : (t596.toList != x7_3.toList) = false:=bne_eq_false_iff_eq.mpr c40
            clear c40
            replace H:=Option.bind_eq_some_iff.mp H
            obtain ⟨t609,A410,H⟩:=H
            have A41:=m_ A410
            clear A410
            replace H:=Option.bind_eq_some_iff.mp H
            obtain ⟨t610,A420,H⟩:=H
            have A42:=m_ A420
            clear A420
            by_cases c43 : t610 = true
            ·subst c43
             replace H:=ifp H rfl
             replace H:=Option.bind_eq_some_iff.mp H
             obtain ⟨t611,A440,H⟩:=H
             have A44:=m_ A440
             clear A440
             obtain rfl:=Option.some.inj H
             have hcz45_0 : wr.cell? ⟨gb595,0,none⟩ = some (.string t591):=(c_ BK595.out 0).trans rfl
             have hcz45_1 : wr.cell? ⟨gb595,1,none⟩ = some (.slice Ao12 t592.length co12):=(c_ BK595.out 1).trans rfl
             have hfz45_0:=f_ BK595.out 0
             have hfz45_1:=f_ BK595.out 1
             have qE46 : ((t601.length : Int) : Int) ≤ ((t592.length : Int) : Int):=of_decide_eq_true asm
             obtain ⟨i0E46,hi0E46,_,hszE46,_⟩:=info_parts info31
             have hcutE46:=cut_to (P:=Tryz.prog) 23 31 .i64 Tryz.underlying23 hi0E46 Ao12 t592.length co12 (t601.length : Int) (of_decide_eq_true asm) qE46 (Kd.R_reads' HO_596001.out).2.1
             have hyE46 : y604.length = ((t601.length : Int) : Int).toNat:=(by rw [Ny604.out,List.length_take];omega)
             rw [← hyE46] at hcutE46
             clear hyE46 hi0E46 hszE46
             replace qE46:=eq_true qE46
             try go_wp2
             have n0_:=m_ (Kd.R_drew HO_596001.out)
             have n1_:=m_ (b2_ BK595.out)
             have n2_:=m_ (l3_ HB.out)
             clear HO_596001
             clear BK595
             clear HB
             have HO_596001:=n0_
             have BK595:=n1_
             have HB:=n2_
             clear n0_ n1_ n2_
             refine start_ (n:=16) (S:=fun w'=>w'.cell? ⟨gb595,0,none⟩ = some (.string t591) ∧ w'.cell? ⟨gb595,1,none⟩ = some (.slice Ao12 t592.length co12)) (ds:=[]) #[false,false,false,false,false,false,false,false,false,false,false,false,false,false,false,false] (by kernel_rfl) rfl rfl ⟨(c_ BK595.out 0).trans rfl,(c_ BK595.out 1).trans rfl⟩ (fun hHeld=>?_);refine with_tabW laws_FnStreamOut.tab13 laws_FnStreamOut.bits13 (fun HT_ HW_=>?_)
             generalize wr.drew = w47 at HO_596001 BK595 HB hHeld ⊢
             refine pureA 0 (some 58) HT_.out ?_
             refine pureA 2 (some 60) HT_.out ?_
             refine pureA 4 (some 62) HT_.out ?_
             refine pureA 6 (some 64) HT_.out ?_
             refine pureA 8 (some 66) HT_.out ?_
             refine takeA 1 (some 59) rfl rfl HT_.out HW_.out hHeld ?_ (by rintro w' ⟨s0,s1⟩;go_simp;with_reducible rfl)
             refine pureA 3 (some 61) HT_.out ?_
             refine takeA 5 (some 63) rfl rfl HT_.out HW_.out hHeld ?_ (by rintro w' ⟨s0,s1⟩;go_simp;with_reducible rfl)
             refine takeA 7 (some 65) rfl rfl HT_.out HW_.out hHeld ?_ (by rintro w' ⟨s0,s1⟩;go_simp;with_reducible rfl)
             refine pureA 9 (some 67) HT_.out ?_
             refine join_ (σ:=Value × Nat) 1 #[true,true,true,true,true,true,true,true,true,true,true,true,true,true,true,false] (fun s_=>[(68,s_.1),(10,.pointer (some ⟨s_.2,0,none⟩)),(69,.int .i64 (t601.length : Int)),(70,.slice Ao12 y604.length co12),(71,.agg #[.string (t591.extract 0 ((ji32) : Int).toNat),.slice Ao12 y604.length co12])]) (fun s_ w'=>(w'.cell? ⟨gb595,0,none⟩ = some (.string t591) ∧ w'.cell? ⟨gb595,1,none⟩ = some (.slice Ao12 t592.length co12)) ∧ (Kd.R k51 51 w' w.heap.size (fun _=>True) s_.1 t601) ∧ (Kd.R k31 31 w' w.heap.size (fun _=>True) (.slice Ao12 t592.length co12) t592) ∧ (w'.heap[gb595]? = some (.cells #[.string t591,.slice Ao12 t592.length co12] 25 (0,0))) ∧ (w'.heap[s_.2]? = some (.cells #[.string (⟨#[]⟩ : ByteArray),.slice none 0 0] 25 (0,0))) ∧ (w.heap.size ≤ s_.2) ∧ (w.heap.size ≤ s_.2) ∧ (gb595 ≠ s_.2) ∧ (s_.2 ≠ gb595) ∧ (Below w.heap.size w w')) ?_ ?_
             rotate_left
             ·intro hCont
              refine two_ (i:=10) (j:=14) (Ni:=some 68) (Nj:=some 10) #[true,true,true,true,true,true,true,true,true,true,true,false,false,false,false,false] #[true,true,true,true,true,true,true,true,true,true,false,false,false,false,true,false] rfl rfl rfl rfl (two_of HT_.out (by kernel_rfl)) (by decide) (by decide) (fun K hK=>?_) (fun K hK=>?_)
              ·skip
               refine goes_ Tryz.func19 (by kernel_rfl) rfl #[.string (t591.extract 0 ((ji32) : Int).toNat)] (by rfl) rfl rfl (by (try simp only [List.map_toArray,List.map_cons,List.map_nil]);first|done|(simp only [hji32];rfl)|rfl|(simp only [List.length_drop,List.length_take];rfl)) ?_
               with_reducible refine (impl_TextPieces.calls k3 (t591.extract 0 ((ji32) : Int).toNat) t601 _ ?side1 A37.out).mono ?_
               (case side1=>first|(with_reducible exact HG.out)|exact GV_below HG.out (puM HB.out GE595.out))
               rintro e w48 ⟨v602,rfl,ho0,hb⟩
               refine ⟨_,rfl,?_⟩
               have n0_:=m_ (Kd.R_below (puR HO_596001.out) hb)
               have n1_:=m_ (Kd.R_lower ho0 (l6_ (puM HB.out GE595.out)))
               have n2_:=m_ (blk_below (g:=gb595) (o:=.cells #[.string t591,.slice Ao12 t592.length co12] 25 (0,0)) (puB BK595.out) hb)
               have n3_:=m_ (l5_ (puM HB.out GE595.out) hb)
               clear HO_596001
               clear BK595
               clear HB
               have HO_596001:=n0_
               have HO603:=n1_
               have BK595:=n2_
               have HB:=n3_
               clear n0_ n1_ n2_ n3_
               (try clear hb)
               (try clear hb2)
               (try clear hk)
               (try clear hi)
               (try clear ho0)
               obtain ⟨Ao49,co49,eo49⟩:=Kd.R_slice HO603.out
               (first|subst eo49|(injection eo49 with f1_ f2_ f3_;have f4_:=f1_.symm;have f5_:=f3_.symm;clear f1_ f2_ f3_;subst f4_;subst f5_))
               refine hK.out _ _ ⟨(c_ BK595.out 0).trans rfl,(c_ BK595.out 1).trans rfl⟩ (fun hHeld=>?_)
               clear hK K
               refine norm_ (a':=?_) ?_ ?_
               rotate_left
               ·show Act.put _ (some 68) _ = _
                simp only [Act.put,s1_,s2_,s3_,i64_w,i32_w]
                rfl
               refine pureA 11 (some 69) HT_.out ?_
               refine pureA 12 (some 70) HT_.out ?_
               refine pureA 13 (some 71) HT_.out ?_
               refine one_ (i:=14) (N:=some 10) #[true,true,true,true,true,true,true,true,true,true,true,true,true,true,true,false] rfl rfl (one_of HT_.out (by kernel_rfl)) (by decide) (fun K hK=>?_)
               refine box_step ?hg (N:=10) ?hd (cs:=#[.string (⟨#[]⟩ : ByteArray),.slice none 0 0]) (t:=25) ?hr ?_;(case hd=>rfl);(case hg=>rfl);(case hr=>first|(go_simp;done)|(go_simp;rfl))
               intro gb608 hg w50 hbox hb
               have n0_:=m_ (Kd.R_below (puR HO_596001.out) hb)
               have n1_:=m_ (Kd.R_below (puR HO603.out) hb)
               have n2_:=m_ (blk_below (g:=gb595) (o:=.cells #[.string t591,.slice Ao12 t592.length co12] 25 (0,0)) (puB BK595.out) hb)
               have n3_:=m_ (l5_ (puM HB.out GE595.out) hb)
               have n4_:=m_ (hbox)
               have n5_:=m_ ((by rw [hg];exact (l6_ (puM HB.out GE595.out)) : w.heap.size ≤ gb608))
               have n6_:=m_ ((by rw [hg];exact (l6_ (puM HB.out GE595.out)) : w.heap.size ≤ gb608))
               have n7_:=m_ ((by rw [hg];exact Nat.ne_of_lt (blk_lt (g:=gb595) (o:=.cells #[.string t591,.slice Ao12 t592.length co12] 25 (0,0)) (puB BK595.out)) : gb595 ≠ gb608))
               have n8_:=m_ ((by rw [hg];exact Nat.ne_of_gt (blk_lt (g:=gb595) (o:=.cells #[.string t591,.slice Ao12 t592.length co12] 25 (0,0)) (puB BK595.out)) : gb608 ≠ gb595))
               clear HO_596001
               clear HO603
               clear BK595
               clear HB
               have HO_596001:=n0_
               have HO603:=n1_
               have BK595:=n2_
               have HB:=n3_
               have BK608:=n4_
               have GW608:=n5_
               have GE608:=n6_
               have NB595_608:=n7_
               have NB608_595:=n8_
               clear n0_ n1_ n2_ n3_ n4_ n5_ n6_ n7_ n8_
               clear hb hbox hg
               refine hK.out _ _ ⟨(c_ BK595.out 0).trans rfl,(c_ BK595.out 1).trans rfl⟩ (fun hHeld=>?_)
               clear hK K
               refine norm_ (a':=?_) ?_ ?_
               rotate_left
               ·show Act.put _ (some 10) _ = _
                simp only [Act.put,s1_,s2_,s3_,i64_w,i32_w]
                rfl
               exact norm_ (by simp only [putAll,Act.put,s1_,s2_,s3_]) (hCont (.slice Ao49 t601.length co49,gb608) _ ⟨hHeld,(puR HO603.out),(puR HO_596001.out),(puB BK595.out),(puB BK608.out),GW608.out,GE608.out,NB595_608.out,NB608_595.out,(puN HB.out GE595.out GE608.out)⟩)
              ·skip
               refine box_step ?hg (N:=10) ?hd (cs:=#[.string (⟨#[]⟩ : ByteArray),.slice none 0 0]) (t:=25) ?hr ?_;(case hd=>rfl);(case hg=>rfl);(case hr=>first|(go_simp;done)|(go_simp;rfl))
               intro gb608 hg w48 hbox hb
               have n0_:=m_ (Kd.R_below (puR HO_596001.out) hb)
               have n1_:=m_ (blk_below (g:=gb595) (o:=.cells #[.string t591,.slice Ao12 t592.length co12] 25 (0,0)) (puB BK595.out) hb)
               have n2_:=m_ (l5_ (puM HB.out GE595.out) hb)
               have n3_:=m_ (hbox)
               have n4_:=m_ ((by rw [hg];exact (l6_ (puM HB.out GE595.out)) : w.heap.size ≤ gb608))
               have n5_:=m_ ((by rw [hg];exact (l6_ (puM HB.out GE595.out)) : w.heap.size ≤ gb608))
               have n6_:=m_ ((by rw [hg];exact Nat.ne_of_lt (blk_lt (g:=gb595) (o:=.cells #[.string t591,.slice Ao12 t592.length co12] 25 (0,0)) (puB BK595.out)) : gb595 ≠ gb608))
               have n7_:=m_ ((by rw [hg];exact Nat.ne_of_gt (blk_lt (g:=gb595) (o:=.cells #[.string t591,.slice Ao12 t592.length co12] 25 (0,0)) (puB BK595.out)) : gb608 ≠ gb595))
               clear HO_596001
               clear BK595
               clear HB
               have HO_596001:=n0_
               have BK595:=n1_
               have HB:=n2_
               have BK608:=n3_
               have GW608:=n4_
               have GE608:=n5_
               have NB595_608:=n6_
               have NB608_595:=n7_
               clear n0_ n1_ n2_ n3_ n4_ n5_ n6_ n7_
               clear hb hbox hg
               refine hK.out _ _ ⟨(c_ BK595.out 0).trans rfl,(c_ BK595.out 1).trans rfl⟩ (fun hHeld=>?_)
               clear hK K
               refine norm_ (a':=?_) ?_ ?_
               rotate_left
               ·show Act.put _ (some 10) _ = _
                simp only [Act.put,s1_,s2_,s3_,i64_w,i32_w]
                rfl
               refine one_ (i:=10) (N:=some 68) #[true,true,true,true,true,true,true,true,true,true,true,false,false,false,true,false] rfl rfl (one_of HT_.out (by kernel_rfl)) (by decide) (fun K hK=>?_)
               refine goes_ Tryz.func19 (by kernel_rfl) rfl #[.string (t591.extract 0 ((ji32) : Int).toNat)] (by rfl) rfl rfl (by (try simp only [List.map_toArray,List.map_cons,List.map_nil]);first|done|(simp only [hji32];rfl)|rfl|(simp only [List.length_drop,List.length_take];rfl)) ?_
               with_reducible refine (impl_TextPieces.calls k3 (t591.extract 0 ((ji32) : Int).toNat) t601 _ ?side1 A37.out).mono ?_
               (case side1=>first|(with_reducible exact HG.out)|exact GV_below HG.out (puN HB.out GE595.out GE608.out))
               rintro e w49 ⟨v602,rfl,ho0,hb⟩
               refine ⟨_,rfl,?_⟩
               have n0_:=m_ (Kd.R_below (puR HO_596001.out) hb)
               have n1_:=m_ (Kd.R_lower ho0 (l6_ (puN HB.out GE595.out GE608.out)))
               have n2_:=m_ (blk_below (g:=gb595) (o:=.cells #[.string t591,.slice Ao12 t592.length co12] 25 (0,0)) (puB BK595.out) hb)
               have n3_:=m_ (blk_below (g:=gb608) (o:=.cells #[.string (⟨#[]⟩ : ByteArray),.slice none 0 0] 25 (0,0)) (puB BK608.out) hb)
               have n4_:=m_ (l5_ (puN HB.out GE595.out GE608.out) hb)
               clear HO_596001
               clear BK595
               clear BK608
               clear HB
               have HO_596001:=n0_
               have HO603:=n1_
               have BK595:=n2_
               have BK608:=n3_
               have HB:=n4_
               clear n0_ n1_ n2_ n3_ n4_
               (try clear hb)
               (try clear hb2)
               (try clear hk)
               (try clear hi)
               (try clear ho0)
               obtain ⟨Ao50,co50,eo50⟩:=Kd.R_slice HO603.out
               (first|subst eo50|(injection eo50 with f1_ f2_ f3_;have f4_:=f1_.symm;have f5_:=f3_.symm;clear f1_ f2_ f3_;subst f4_;subst f5_))
               refine hK.out _ _ ⟨(c_ BK595.out 0).trans rfl,(c_ BK595.out 1).trans rfl⟩ (fun hHeld=>?_)
               clear hK K
               refine norm_ (a':=?_) ?_ ?_
               rotate_left
               ·show Act.put _ (some 68) _ = _
                simp only [Act.put,s1_,s2_,s3_,i64_w,i32_w]
                rfl
               refine pureA 11 (some 69) HT_.out ?_
               refine pureA 12 (some 70) HT_.out ?_
               refine pureAL 13 (some 71) #[true,true,true,true,true,true,true,true,true,true,true,true,true,true,true,false] HT_.out ?_
               exact norm_ (by simp only [putAll,Act.put,s1_,s2_,s3_]) (hCont (.slice Ao50 t601.length co50,gb608) _ ⟨hHeld,(puR HO603.out),(puR HO_596001.out),(puB BK595.out),(puB BK608.out),GW608.out,GE608.out,NB595_608.out,NB608_595.out,(puN HB.out GE595.out GE608.out)⟩)
             rintro ⟨v602,gb608⟩ w51 ⟨hS_,h0_,h1_,h2_,h3_,h4_,h5_,h6_,h7_,h8_⟩
             have n0_ : Aside0 (Kd.R k51 51 w51 w.heap.size (fun _=>True) v602 t601):=⟨h0_⟩
             have n1_ : Aside0 (Kd.R k31 31 w51 w.heap.size (fun _=>True) (.slice Ao12 t592.length co12) t592):=⟨h1_⟩
             have n2_ : Aside0 (w51.heap[gb595]? = some (.cells #[.string t591,.slice Ao12 t592.length co12] 25 (0,0))):=⟨h2_⟩
             have n3_ : Aside0 (w51.heap[gb608]? = some (.cells #[.string (⟨#[]⟩ : ByteArray),.slice none 0 0] 25 (0,0))):=⟨h3_⟩
             have n4_ : Aside0 (w.heap.size ≤ gb608):=⟨h4_⟩
             have n5_ : Aside0 (w.heap.size ≤ gb608):=⟨h5_⟩
             have n6_ : Aside0 (gb595 ≠ gb608):=⟨h6_⟩
             have n7_ : Aside0 (gb608 ≠ gb595):=⟨h7_⟩
             have n8_ : Aside0 (Below w.heap.size w w51):=⟨h8_⟩
             clear HO_596001
             clear BK595
             clear HB
             clear h0_ h1_ h2_ h3_ h4_ h5_ h6_ h7_ h8_
             have HO603:=n0_
             have HO_596001:=n1_
             have BK595:=n2_
             have BK608:=n3_
             have GW608:=n4_
             have GE608:=n5_
             have NB595_608:=n6_
             have NB608_595:=n7_
             have HB:=n8_
             clear n0_ n1_ n2_ n3_ n4_ n5_ n6_ n7_ n8_
             have hHeld : w51.cell? ⟨gb595,0,none⟩ = some (.string t591) ∧ w51.cell? ⟨gb595,1,none⟩ = some (.slice Ao12 t592.length co12):=hS_
             obtain ⟨Ao52,co52,eo52⟩:=Kd.R_slice HO603.out
             (first|subst eo52|(injection eo52 with f1_ f2_ f3_;have f4_:=f1_.symm;have f5_:=f3_.symm;clear f1_ f2_ f3_;subst f4_;subst f5_))
             have q53 : ((t601.length : Int) : Int) ≤ ((t592.length : Int) : Int):=of_decide_eq_true asm
             obtain ⟨i053,hi053,_,hsz53,_⟩:=info_parts info31
             have hroom53 : t592.length ≤ co12:=(Kd.R_reads' HO_596001.out).2.1
             have hC53 : Kd.C k31 _ Ao12 t592.length t592:=(Kd.R_reads' HO_596001.out).2.2
             have hcut53:=cut_to (P:=Tryz.prog) 23 31 .i64 Tryz.underlying23 hi053 Ao12 t592.length co12 (t601.length : Int) (of_decide_eq_true asm) q53 hroom53
             have hr53:=Kd.C_take (m:=((t601.length : Int) : Int).toNat) hC53 (by omega)
             have hy53 : y604.length = ((t601.length : Int) : Int).toNat:=(by rw [Ny604.out,List.length_take];omega)
             rw [← Ny604.out] at hr53
             rw [← hy53] at hcut53
             have HR607:=m_ hr53
             have HC607:=m_ (show y604.length ≤ co12 from by omega)
             clear hr53 hC53 hroom53 hi053 hsz53
             have KY53:=m_ hy53
             clear hy53
             have KL53:=m_ (show ((t601.length : Int) : Int).toNat ≤ t592.length from by omega)
             replace q53:=eq_true q53
             refine norm_ (a':=?_) ?_ ?_
             rotate_left
             ·simp only [putAll,Act.put,s1_,s2_,s3_]
              rfl
             refine one_ (i:=15) (N:=none) #[true,true,true,true,true,true,true,true,true,true,true,true,true,true,true,true] rfl rfl (one_of HT_.out (by kernel_rfl)) (by decide) (fun K hK=>?_)
             have hs54 : w51.cell? ⟨gb608,0,none⟩ = some (.string (⟨#[]⟩ : ByteArray)):=(c_ BK608.out 0).trans rfl
             have hfs54:=f_ BK608.out 0
             have hns54_0:=NB595_608.out
             have hms54_0:=NB608_595.out
             have hs55 : w51.cell? ⟨gb608,1,none⟩ = some (.slice none 0 0):=(c_ BK608.out 1).trans rfl
             have hfs55:=f_ BK608.out 1
             have hns55_0:=NB595_608.out
             have hms55_0:=NB608_595.out
             refine skip_ (w1:=?_) (by rfl) rfl ?_ ?_
             rotate_left
             ·go_simp
              rfl
             refine hK.out _ _ ⟨((cell_far (p:=⟨gb608,_,none⟩) NB595_608.out _).trans (((cell_far (p:=⟨gb608,_,none⟩) NB595_608.out _).trans (hHeld.1)))),((cell_far (p:=⟨gb608,_,none⟩) NB595_608.out _).trans (((cell_far (p:=⟨gb608,_,none⟩) NB595_608.out _).trans (hHeld.2))))⟩ (fun hHeld=>?_)
             clear hK K
             refine done_ (done_of HT_.out (by kernel_rfl)) ?_
             have hnb56:=NB608_595.out
             have hnc56:=NB595_608.out
             have hcz57_0 : w51.cell? ⟨gb608,0,none⟩ = some (.string (⟨#[]⟩ : ByteArray)):=(c_ BK608.out 0).trans rfl
             have hcz57_1 : w51.cell? ⟨gb608,1,none⟩ = some (.slice none 0 0):=(c_ BK608.out 1).trans rfl
             have hfz57_0:=f_ BK608.out 0
             have hfz57_1:=f_ BK608.out 1
             try go_wp2_with (first|(go_at_call 15;(with_reducible refine (impl_StreamOut.calls k3 (t591.extract 0 ((ji32) : Int).toNat) _ _ y604 t609 _ ?side1 ?side2 ?side3 A41.out).mono ?_);(case side1=>repeat (first|exact (C_takeE Ny604.out ((Kd.R_reads' (by (with_reducible repeat (first|apply Kd.R_alloc|apply Kd.R_drewN|apply Kd.R_drew));exact (Kd.R_mono (Kd.R_far (p:=⟨gb608,1,none⟩) (Kd.R_far (p:=⟨gb608,0,none⟩) (Kd.R_types HO_596001.out BK608.out (by decide)) (fun _ hk=>hk.2) (.string (t591.extract 0 ((ji32) : Int).toNat))) (fun _ hk=>hk.2) (.slice Ao12 y604.length co12)) (fun _ h_=>h_.1)))).2.2) KL53.out)|(with_reducible refine Kd.C_alloc ?_ _)|(with_reducible refine Kd.C_drewN ?_ _)|(with_reducible refine Kd.C_drew ?_)));(case side2=>exact HC607.out);(case side3=>first|(with_reducible exact HG.out)|exact GV_below HG.out (puN HB.out GE595.out GE608.out));rintro e w58 ⟨rfl,hb⟩;have n0_:=m_ (Kd.R_below (by (with_reducible repeat (first|apply Kd.R_alloc|apply Kd.R_drewN|apply Kd.R_drew));exact (Kd.R_mono (Kd.R_far (p:=⟨gb608,1,none⟩) (Kd.R_far (p:=⟨gb608,0,none⟩) (Kd.R_types HO_596001.out BK608.out (by decide)) (fun _ hk=>hk.2) (.string (t591.extract 0 ((ji32) : Int).toNat))) (fun _ hk=>hk.2) (.slice Ao12 y604.length co12)) (fun _ h_=>h_.1))) hb);have n1_:=m_ (Kd.R_below (by (with_reducible repeat (first|apply Kd.R_alloc|apply Kd.R_drewN|apply Kd.R_drew));exact (Kd.R_mono (Kd.R_far (p:=⟨gb608,1,none⟩) (Kd.R_far (p:=⟨gb608,0,none⟩) (Kd.R_types HO603.out BK608.out (by decide)) (fun _ hk=>hk.2) (.string (t591.extract 0 ((ji32) : Int).toNat))) (fun _ hk=>hk.2) (.slice Ao12 y604.length co12)) (fun _ h_=>h_.1))) hb);have n2_:=m_ (blk_below (g:=gb595) (o:=.cells #[.string t591,.slice Ao12 t592.length co12] 25 (0,0)) (by (with_reducible repeat first|apply b1_|apply b2_|apply b3_);refine b4_ ?_ NB595_608.out _;(with_reducible repeat first|apply b1_|apply b2_|apply b3_);refine b4_ ?_ NB595_608.out _;(with_reducible repeat first|apply b1_|apply b2_|apply b3_);exact BK595.out) hb);have n3_:=m_ (blk_below (g:=gb608) (o:=.cells #[.string (t591.extract 0 ((ji32) : Int).toNat),.slice Ao12 y604.length co12] 25 (0,0)) (by (with_reducible repeat first|apply b1_|apply b2_|apply b3_);refine blk_put (cs:=#[.string (t591.extract 0 ((ji32) : Int).toNat),.slice none 0 0]) ?_ 1 _ rfl;(with_reducible repeat first|apply b1_|apply b2_|apply b3_);refine blk_put (cs:=#[.string (⟨#[]⟩ : ByteArray),.slice none 0 0]) ?_ 0 _ rfl;(with_reducible repeat first|apply b1_|apply b2_|apply b3_);exact BK608.out) hb);have n4_:=m_ (Kd.C_below (C_takeE Ny604.out ((Kd.R_reads' (by (with_reducible repeat (first|apply Kd.R_alloc|apply Kd.R_drewN|apply Kd.R_drew));exact (Kd.R_mono (Kd.R_far (p:=⟨gb608,1,none⟩) (Kd.R_far (p:=⟨gb608,0,none⟩) (Kd.R_types HO_596001.out BK608.out (by decide)) (fun _ hk=>hk.2) (.string (t591.extract 0 ((ji32) : Int).toNat))) (fun _ hk=>hk.2) (.slice Ao12 y604.length co12)) (fun _ h_=>h_.1)))).2.2) KL53.out) hb);have n5_:=m_ (l5_ (puN HB.out GE595.out GE608.out) hb);revert n0_ n1_ n2_ n3_ n4_ n5_;clear HO_596001 HO603 BK595 BK608 HR607 HB;intro HO_596001 HO603 BK595 BK608 HR607 HB;(try clear hb);(try clear hb2);(try clear hk);(try clear hi))|(go_at_call 20;(with_reducible refine (laws_lzBegins.calls t609 t596 true _ A42.out).mono ?_);rintro e w' ⟨rfl,⟨nd,rfl⟩⟩;have hcz59_0 : w58.cell? ⟨gb608,0,none⟩ = some (.string (t591.extract 0 ((ji32) : Int).toNat)):=(c_ BK608.out 0).trans rfl;have hcz59_1 : w58.cell? ⟨gb608,1,none⟩ = some (.slice Ao12 y604.length co12):=(c_ BK608.out 1).trans rfl;have hfz59_0:=f_ BK608.out 0;have hfz59_1:=f_ BK608.out 1)|(go_at_call 21;(with_reducible refine (impl_StreamOk.calls k3 (t591.extract 0 ((ji32) : Int).toNat) _ _ y604 t611 _ ?side1 ?side2 ?side3 A44.out).mono ?_);(case side1=>repeat (first|exact (by repeat (first|(with_reducible exact HR607.out)|(with_reducible refine Kd.C_alloc ?_ _)|(with_reducible refine Kd.C_drewN ?_ _)|(with_reducible refine Kd.C_drew ?_)|exact HR607.out))|(with_reducible refine Kd.C_alloc ?_ _)|(with_reducible refine Kd.C_drewN ?_ _)|(with_reducible refine Kd.C_drew ?_)));(case side2=>exact HC607.out);(case side3=>first|(with_reducible exact HG.out)|exact GV_below HG.out (puN HB.out GE595.out GE608.out));rintro e w60 ⟨rfl,hb⟩;have n0_:=m_ (Kd.R_below (puR HO_596001.out) hb);have n1_:=m_ (Kd.R_below (puR HO603.out) hb);have n2_:=m_ (blk_below (g:=gb595) (o:=.cells #[.string t591,.slice Ao12 t592.length co12] 25 (0,0)) (puB BK595.out) hb);have n3_:=m_ (blk_below (g:=gb608) (o:=.cells #[.string (t591.extract 0 ((ji32) : Int).toNat),.slice Ao12 y604.length co12] 25 (0,0)) (puB BK608.out) hb);have n4_:=m_ (Kd.C_below (by repeat (first|(with_reducible exact HR607.out)|(with_reducible refine Kd.C_alloc ?_ _)|(with_reducible refine Kd.C_drewN ?_ _)|(with_reducible refine Kd.C_drew ?_)|exact HR607.out)) hb);have n5_:=m_ (l5_ (puN HB.out GE595.out GE608.out) hb);revert n0_ n1_ n2_ n3_ n4_ n5_;clear HO_596001 HO603 BK595 BK608 HR607 HB;intro HO_596001 HO603 BK595 BK608 HR607 HB;(try clear hb);(try clear hb2);(try clear hk);(try clear hi)))
             go_ret
             exact ⟨by first|rfl|(simp [e1_,e2_] <;> rfl)|(simp only [← hji32];first|rfl|(simp [e1_,e2_] <;> rfl))|(simp [*,e1_,e2_] <;> rfl)|(simp [e1_,e2_,pk_empty1,pk_empty2];done)|(simp [*,e1_,e2_,pk_empty1,pk_empty2];done),puN HB.out GE595.out GE608.out⟩
            ·replace c43:=Bool.eq_false_iff.mpr c43
             subst c43
             replace H:=ifn H
             obtain rfl:=Option.some.inj H
             have hcz61_0 : wr.cell? ⟨gb595,0,none⟩ = some (.string t591):=(c_ BK595.out 0).trans rfl
             have hcz61_1 : wr.cell? ⟨gb595,1,none⟩ = some (.slice Ao12 t592.length co12):=(c_ BK595.out 1).trans rfl
             have hfz61_0:=f_ BK595.out 0
             have hfz61_1:=f_ BK595.out 1
             have qE62 : ((t601.length : Int) : Int) ≤ ((t592.length : Int) : Int):=of_decide_eq_true asm
             obtain ⟨i0E62,hi0E62,_,hszE62,_⟩:=info_parts info31
             have hcutE62:=cut_to (P:=Tryz.prog) 23 31 .i64 Tryz.underlying23 hi0E62 Ao12 t592.length co12 (t601.length : Int) (of_decide_eq_true asm) qE62 (Kd.R_reads' HO_596001.out).2.1
             have hyE62 : y604.length = ((t601.length : Int) : Int).toNat:=(by rw [Ny604.out,List.length_take];omega)
             rw [← hyE62] at hcutE62
             clear hyE62 hi0E62 hszE62
             replace qE62:=eq_true qE62
             try go_wp2
             have n0_:=m_ (Kd.R_drew HO_596001.out)
             have n1_:=m_ (b2_ BK595.out)
             have n2_:=m_ (l3_ HB.out)
             clear HO_596001
             clear BK595
             clear HB
             have HO_596001:=n0_
             have BK595:=n1_
             have HB:=n2_
             clear n0_ n1_ n2_
             refine start_ (n:=16) (S:=fun w'=>w'.cell? ⟨gb595,0,none⟩ = some (.string t591) ∧ w'.cell? ⟨gb595,1,none⟩ = some (.slice Ao12 t592.length co12)) (ds:=[]) #[false,false,false,false,false,false,false,false,false,false,false,false,false,false,false,false] (by kernel_rfl) rfl rfl ⟨(c_ BK595.out 0).trans rfl,(c_ BK595.out 1).trans rfl⟩ (fun hHeld=>?_);refine with_tabW laws_FnStreamOut.tab13 laws_FnStreamOut.bits13 (fun HT_ HW_=>?_)
             generalize wr.drew = w63 at HO_596001 BK595 HB hHeld ⊢
             refine pureA 0 (some 58) HT_.out ?_
             refine pureA 2 (some 60) HT_.out ?_
             refine pureA 4 (some 62) HT_.out ?_
             refine pureA 6 (some 64) HT_.out ?_
             refine pureA 8 (some 66) HT_.out ?_
             refine takeA 1 (some 59) rfl rfl HT_.out HW_.out hHeld ?_ (by rintro w' ⟨s0,s1⟩;go_simp;with_reducible rfl)
             refine pureA 3 (some 61) HT_.out ?_
             refine takeA 5 (some 63) rfl rfl HT_.out HW_.out hHeld ?_ (by rintro w' ⟨s0,s1⟩;go_simp;with_reducible rfl)
             refine takeA 7 (some 65) rfl rfl HT_.out HW_.out hHeld ?_ (by rintro w' ⟨s0,s1⟩;go_simp;with_reducible rfl)
             refine pureA 9 (some 67) HT_.out ?_
             refine join_ (σ:=Value × Nat) 1 #[true,true,true,true,true,true,true,true,true,true,true,true,true,true,true,false] (fun s_=>[(68,s_.1),(10,.pointer (some ⟨s_.2,0,none⟩)),(69,.int .i64 (t601.length : Int)),(70,.slice Ao12 y604.length co12),(71,.agg #[.string (t591.extract 0 ((ji32) : Int).toNat),.slice Ao12 y604.length co12])]) (fun s_ w'=>(w'.cell? ⟨gb595,0,none⟩ = some (.string t591) ∧ w'.cell? ⟨gb595,1,none⟩ = some (.slice Ao12 t592.length co12)) ∧ (Kd.R k51 51 w' w.heap.size (fun _=>True) s_.1 t601) ∧ (Kd.R k31 31 w' w.heap.size (fun _=>True) (.slice Ao12 t592.length co12) t592) ∧ (w'.heap[gb595]? = some (.cells #[.string t591,.slice Ao12 t592.length co12] 25 (0,0))) ∧ (w'.heap[s_.2]? = some (.cells #[.string (⟨#[]⟩ : ByteArray),.slice none 0 0] 25 (0,0))) ∧ (w.heap.size ≤ s_.2) ∧ (w.heap.size ≤ s_.2) ∧ (gb595 ≠ s_.2) ∧ (s_.2 ≠ gb595) ∧ (Below w.heap.size w w')) ?_ ?_
             rotate_left
             ·intro hCont
              refine two_ (i:=10) (j:=14) (Ni:=some 68) (Nj:=some 10) #[true,true,true,true,true,true,true,true,true,true,true,false,false,false,false,false] #[true,true,true,true,true,true,true,true,true,true,false,false,false,false,true,false] rfl rfl rfl rfl (two_of HT_.out (by kernel_rfl)) (by decide) (by decide) (fun K hK=>?_) (fun K hK=>?_)
              ·skip
               refine goes_ Tryz.func19 (by kernel_rfl) rfl #[.string (t591.extract 0 ((ji32) : Int).toNat)] (by rfl) rfl rfl (by (try simp only [List.map_toArray,List.map_cons,List.map_nil]);first|done|(simp only [hji32];rfl)|rfl|(simp only [List.length_drop,List.length_take];rfl)) ?_
               with_reducible refine (impl_TextPieces.calls k3 (t591.extract 0 ((ji32) : Int).toNat) t601 _ ?side1 A37.out).mono ?_
               (case side1=>first|(with_reducible exact HG.out)|exact GV_below HG.out (puM HB.out GE595.out))
               rintro e w64 ⟨v602,rfl,ho0,hb⟩
               refine ⟨_,rfl,?_⟩
               have n0_:=m_ (Kd.R_below (puR HO_596001.out) hb)
               have n1_:=m_ (Kd.R_lower ho0 (l6_ (puM HB.out GE595.out)))
               have n2_:=m_ (blk_below (g:=gb595) (o:=.cells #[.string t591,.slice Ao12 t592.length co12] 25 (0,0)) (puB BK595.out) hb)
               have n3_:=m_ (l5_ (puM HB.out GE595.out) hb)
               clear HO_596001
               clear BK595
               clear HB
               have HO_596001:=n0_
               have HO603:=n1_
               have BK595:=n2_
               have HB:=n3_
               clear n0_ n1_ n2_ n3_
               (try clear hb)
               (try clear hb2)
               (try clear hk)
               (try clear hi)
               (try clear ho0)
               obtain ⟨Ao65,co65,eo65⟩:=Kd.R_slice HO603.out
               (first|subst eo65|(injection eo65 with f1_ f2_ f3_;have f4_:=f1_.symm;have f5_:=f3_.symm;clear f1_ f2_ f3_;subst f4_;subst f5_))
               refine hK.out _ _ ⟨(c_ BK595.out 0).trans rfl,(c_ BK595.out 1).trans rfl⟩ (fun hHeld=>?_)
               clear hK K
               refine norm_ (a':=?_) ?_ ?_
               rotate_left
               ·show Act.put _ (some 68) _ = _
                simp only [Act.put,s1_,s2_,s3_,i64_w,i32_w]
                rfl
               refine pureA 11 (some 69) HT_.out ?_
               refine pureA 12 (some 70) HT_.out ?_
               refine pureA 13 (some 71) HT_.out ?_
               refine one_ (i:=14) (N:=some 10) #[true,true,true,true,true,true,true,true,true,true,true,true,true,true,true,false] rfl rfl (one_of HT_.out (by kernel_rfl)) (by decide) (fun K hK=>?_)
               refine box_step ?hg (N:=10) ?hd (cs:=#[.string (⟨#[]⟩ : ByteArray),.slice none 0 0]) (t:=25) ?hr ?_;(case hd=>rfl);(case hg=>rfl);(case hr=>first|(go_simp;done)|(go_simp;rfl))
               intro gb608 hg w66 hbox hb
               have n0_:=m_ (Kd.R_below (puR HO_596001.out) hb)
               have n1_:=m_ (Kd.R_below (puR HO603.out) hb)
               have n2_:=m_ (blk_below (g:=gb595) (o:=.cells #[.string t591,.slice Ao12 t592.length co12] 25 (0,0)) (puB BK595.out) hb)
               have n3_:=m_ (l5_ (puM HB.out GE595.out) hb)
               have n4_:=m_ (hbox)
               have n5_:=m_ ((by rw [hg];exact (l6_ (puM HB.out GE595.out)) : w.heap.size ≤ gb608))
               have n6_:=m_ ((by rw [hg];exact (l6_ (puM HB.out GE595.out)) : w.heap.size ≤ gb608))
               have n7_:=m_ ((by rw [hg];exact Nat.ne_of_lt (blk_lt (g:=gb595) (o:=.cells #[.string t591,.slice Ao12 t592.length co12] 25 (0,0)) (puB BK595.out)) : gb595 ≠ gb608))
               have n8_:=m_ ((by rw [hg];exact Nat.ne_of_gt (blk_lt (g:=gb595) (o:=.cells #[.string t591,.slice Ao12 t592.length co12] 25 (0,0)) (puB BK595.out)) : gb608 ≠ gb595))
               clear HO_596001
               clear HO603
               clear BK595
               clear HB
               have HO_596001:=n0_
               have HO603:=n1_
               have BK595:=n2_
               have HB:=n3_
               have BK608:=n4_
               have GW608:=n5_
               have GE608:=n6_
               have NB595_608:=n7_
               have NB608_595:=n8_
               clear n0_ n1_ n2_ n3_ n4_ n5_ n6_ n7_ n8_
               clear hb hbox hg
               refine hK.out _ _ ⟨(c_ BK595.out 0).trans rfl,(c_ BK595.out 1).trans rfl⟩ (fun hHeld=>?_)
               clear hK K
               refine norm_ (a':=?_) ?_ ?_
               rotate_left
               ·show Act.put _ (some 10) _ = _
                simp only [Act.put,s1_,s2_,s3_,i64_w,i32_w]
                rfl
               exact norm_ (by simp only [putAll,Act.put,s1_,s2_,s3_]) (hCont (.slice Ao65 t601.length co65,gb608) _ ⟨hHeld,(puR HO603.out),(puR HO_596001.out),(puB BK595.out),(puB BK608.out),GW608.out,GE608.out,NB595_608.out,NB608_595.out,(puN HB.out GE595.out GE608.out)⟩)
              ·skip
               refine box_step ?hg (N:=10) ?hd (cs:=#[.string (⟨#[]⟩ : ByteArray),.slice none 0 0]) (t:=25) ?hr ?_;(case hd=>rfl);(case hg=>rfl);(case hr=>first|(go_simp;done)|(go_simp;rfl))
               intro gb608 hg w64 hbox hb
               have n0_:=m_ (Kd.R_below (puR HO_596001.out) hb)
               have n1_:=m_ (blk_below (g:=gb595) (o:=.cells #[.string t591,.slice Ao12 t592.length co12] 25 (0,0)) (puB BK595.out) hb)
               have n2_:=m_ (l5_ (puM HB.out GE595.out) hb)
               have n3_:=m_ (hbox)
               have n4_:=m_ ((by rw [hg];exact (l6_ (puM HB.out GE595.out)) : w.heap.size ≤ gb608))
               have n5_:=m_ ((by rw [hg];exact (l6_ (puM HB.out GE595.out)) : w.heap.size ≤ gb608))
               have n6_:=m_ ((by rw [hg];exact Nat.ne_of_lt (blk_lt (g:=gb595) (o:=.cells #[.string t591,.slice Ao12 t592.length co12] 25 (0,0)) (puB BK595.out)) : gb595 ≠ gb608))
               have n7_:=m_ ((by rw [hg];exact Nat.ne_of_gt (blk_lt (g:=gb595) (o:=.cells #[.string t591,.slice Ao12 t592.length co12] 25 (0,0)) (puB BK595.out)) : gb608 ≠ gb595))
               clear HO_596001
               clear BK595
               clear HB
               have HO_596001:=n0_
               have BK595:=n1_
               have HB:=n2_
               have BK608:=n3_
               have GW608:=n4_
               have GE608:=n5_
               have NB595_608:=n6_
               have NB608_595:=n7_
               clear n0_ n1_ n2_ n3_ n4_ n5_ n6_ n7_
               clear hb hbox hg
               refine hK.out _ _ ⟨(c_ BK595.out 0).trans rfl,(c_ BK595.out 1).trans rfl⟩ (fun hHeld=>?_)
               clear hK K
               refine norm_ (a':=?_) ?_ ?_
               rotate_left
               ·show Act.put _ (some 10) _ = _
                simp only [Act.put,s1_,s2_,s3_,i64_w,i32_w]
                rfl
               refine one_ (i:=10) (N:=some 68) #[true,true,true,true,true,true,true,true,true,true,true,false,false,false,true,false] rfl rfl (one_of HT_.out (by kernel_rfl)) (by decide) (fun K hK=>?_)
               refine goes_ Tryz.func19 (by kernel_rfl) rfl #[.string (t591.extract 0 ((ji32) : Int).toNat)] (by rfl) rfl rfl (by (try simp only [List.map_toArray,List.map_cons,List.map_nil]);first|done|(simp only [hji32];rfl)|rfl|(simp only [List.length_drop,List.length_take];rfl)) ?_
               with_reducible refine (impl_TextPieces.calls k3 (t591.extract 0 ((ji32) : Int).toNat) t601 _ ?side1 A37.out).mono ?_
               (case side1=>first|(with_reducible exact HG.out)|exact GV_below HG.out (puN HB.out GE595.out GE608.out))
               rintro e w65 ⟨v602,rfl,ho0,hb⟩
               refine ⟨_,rfl,?_⟩
               have n0_:=m_ (Kd.R_below (puR HO_596001.out) hb)
               have n1_:=m_ (Kd.R_lower ho0 (l6_ (puN HB.out GE595.out GE608.out)))
               have n2_:=m_ (blk_below (g:=gb595) (o:=.cells #[.string t591,.slice Ao12 t592.length co12] 25 (0,0)) (puB BK595.out) hb)
               have n3_:=m_ (blk_below (g:=gb608) (o:=.cells #[.string (⟨#[]⟩ : ByteArray),.slice none 0 0] 25 (0,0)) (puB BK608.out) hb)
               have n4_:=m_ (l5_ (puN HB.out GE595.out GE608.out) hb)
               clear HO_596001
               clear BK595
               clear BK608
               clear HB
               have HO_596001:=n0_
               have HO603:=n1_
               have BK595:=n2_
               have BK608:=n3_
               have HB:=n4_
               clear n0_ n1_ n2_ n3_ n4_
               (try clear hb)
               (try clear hb2)
               (try clear hk)
               (try clear hi)
               (try clear ho0)
               obtain ⟨Ao66,co66,eo66⟩:=Kd.R_slice HO603.out
               (first|subst eo66|(injection eo66 with f1_ f2_ f3_;have f4_:=f1_.symm;have f5_:=f3_.symm;clear f1_ f2_ f3_;subst f4_;subst f5_))
               refine hK.out _ _ ⟨(c_ BK595.out 0).trans rfl,(c_ BK595.out 1).trans rfl⟩ (fun hHeld=>?_)
               clear hK K
               refine norm_ (a':=?_) ?_ ?_
               rotate_left
               ·show Act.put _ (some 68) _ = _
                simp only [Act.put,s1_,s2_,s3_,i64_w,i32_w]
                rfl
               refine pureA 11 (some 69) HT_.out ?_
               refine pureA 12 (some 70) HT_.out ?_
               refine pureAL 13 (some 71) #[true,true,true,true,true,true,true,true,true,true,true,true,true,true,true,false] HT_.out ?_
               exact norm_ (by simp only [putAll,Act.put,s1_,s2_,s3_]) (hCont (.slice Ao66 t601.length co66,gb608) _ ⟨hHeld,(puR HO603.out),(puR HO_596001.out),(puB BK595.out),(puB BK608.out),GW608.out,GE608.out,NB595_608.out,NB608_595.out,(puN HB.out GE595.out GE608.out)⟩)
             rintro ⟨v602,gb608⟩ w67 ⟨hS_,h0_,h1_,h2_,h3_,h4_,h5_,h6_,h7_,h8_⟩
             have n0_ : Aside0 (Kd.R k51 51 w67 w.heap.size (fun _=>True) v602 t601):=⟨h0_⟩
             have n1_ : Aside0 (Kd.R k31 31 w67 w.heap.size (fun _=>True) (.slice Ao12 t592.length co12) t592):=⟨h1_⟩
             have n2_ : Aside0 (w67.heap[gb595]? = some (.cells #[.string t591,.slice Ao12 t592.length co12] 25 (0,0))):=⟨h2_⟩
             have n3_ : Aside0 (w67.heap[gb608]? = some (.cells #[.string (⟨#[]⟩ : ByteArray),.slice none 0 0] 25 (0,0))):=⟨h3_⟩
             have n4_ : Aside0 (w.heap.size ≤ gb608):=⟨h4_⟩
             have n5_ : Aside0 (w.heap.size ≤ gb608):=⟨h5_⟩
             have n6_ : Aside0 (gb595 ≠ gb608):=⟨h6_⟩
             have n7_ : Aside0 (gb608 ≠ gb595):=⟨h7_⟩
             have n8_ : Aside0 (Below w.heap.size w w67):=⟨h8_⟩
             clear HO_596001
             clear BK595
             clear HB
             clear h0_ h1_ h2_ h3_ h4_ h5_ h6_ h7_ h8_
             have HO603:=n0_
             have HO_596001:=n1_
             have BK595:=n2_
             have BK608:=n3_
             have GW608:=n4_
             have GE608:=n5_
             have NB595_608:=n6_
             have NB608_595:=n7_
             have HB:=n8_
             clear n0_ n1_ n2_ n3_ n4_ n5_ n6_ n7_ n8_
             have hHeld : w67.cell? ⟨gb595,0,none⟩ = some (.string t591) ∧ w67.cell? ⟨gb595,1,none⟩ = some (.slice Ao12 t592.length co12):=hS_
             obtain ⟨Ao68,co68,eo68⟩:=Kd.R_slice HO603.out
             (first|subst eo68|(injection eo68 with f1_ f2_ f3_;have f4_:=f1_.symm;have f5_:=f3_.symm;clear f1_ f2_ f3_;subst f4_;subst f5_))
             have q69 : ((t601.length : Int) : Int) ≤ ((t592.length : Int) : Int):=of_decide_eq_true asm
             obtain ⟨i069,hi069,_,hsz69,_⟩:=info_parts info31
             have hroom69 : t592.length ≤ co12:=(Kd.R_reads' HO_596001.out).2.1
             have hC69 : Kd.C k31 _ Ao12 t592.length t592:=(Kd.R_reads' HO_596001.out).2.2
             have hcut69:=cut_to (P:=Tryz.prog) 23 31 .i64 Tryz.underlying23 hi069 Ao12 t592.length co12 (t601.length : Int) (of_decide_eq_true asm) q69 hroom69
             have hr69:=Kd.C_take (m:=((t601.length : Int) : Int).toNat) hC69 (by omega)
             have hy69 : y604.length = ((t601.length : Int) : Int).toNat:=(by rw [Ny604.out,List.length_take];omega)
             rw [← Ny604.out] at hr69
             rw [← hy69] at hcut69
             have HR607:=m_ hr69
             have HC607:=m_ (show y604.length ≤ co12 from by omega)
             clear hr69 hC69 hroom69 hi069 hsz69
             have KY69:=m_ hy69
             clear hy69
             have KL69:=m_ (show ((t601.length : Int) : Int).toNat ≤ t592.length from by omega)
             replace q69:=eq_true q69
             refine norm_ (a':=?_) ?_ ?_
             rotate_left
             ·simp only [putAll,Act.put,s1_,s2_,s3_]
              rfl
             refine one_ (i:=15) (N:=none) #[true,true,true,true,true,true,true,true,true,true,true,true,true,true,true,true] rfl rfl (one_of HT_.out (by kernel_rfl)) (by decide) (fun K hK=>?_)
             have hs70 : w67.cell? ⟨gb608,0,none⟩ = some (.string (⟨#[]⟩ : ByteArray)):=(c_ BK608.out 0).trans rfl
             have hfs70:=f_ BK608.out 0
             have hns70_0:=NB595_608.out
             have hms70_0:=NB608_595.out
             have hs71 : w67.cell? ⟨gb608,1,none⟩ = some (.slice none 0 0):=(c_ BK608.out 1).trans rfl
             have hfs71:=f_ BK608.out 1
             have hns71_0:=NB595_608.out
             have hms71_0:=NB608_595.out
             refine skip_ (w1:=?_) (by rfl) rfl ?_ ?_
             rotate_left
             ·go_simp
              rfl
             refine hK.out _ _ ⟨((cell_far (p:=⟨gb608,_,none⟩) NB595_608.out _).trans (((cell_far (p:=⟨gb608,_,none⟩) NB595_608.out _).trans (hHeld.1)))),((cell_far (p:=⟨gb608,_,none⟩) NB595_608.out _).trans (((cell_far (p:=⟨gb608,_,none⟩) NB595_608.out _).trans (hHeld.2))))⟩ (fun hHeld=>?_)
             clear hK K
             refine done_ (done_of HT_.out (by kernel_rfl)) ?_
             have hnb72:=NB608_595.out
             have hnc72:=NB595_608.out
             have hcz73_0 : w67.cell? ⟨gb608,0,none⟩ = some (.string (⟨#[]⟩ : ByteArray)):=(c_ BK608.out 0).trans rfl
             have hcz73_1 : w67.cell? ⟨gb608,1,none⟩ = some (.slice none 0 0):=(c_ BK608.out 1).trans rfl
             have hfz73_0:=f_ BK608.out 0
             have hfz73_1:=f_ BK608.out 1
             try go_wp2_with (first|(go_at_call 15;(with_reducible refine (impl_StreamOut.calls k3 (t591.extract 0 ((ji32) : Int).toNat) _ _ y604 t609 _ ?side1 ?side2 ?side3 A41.out).mono ?_);(case side1=>repeat (first|exact (C_takeE Ny604.out ((Kd.R_reads' (by (with_reducible repeat (first|apply Kd.R_alloc|apply Kd.R_drewN|apply Kd.R_drew));exact (Kd.R_mono (Kd.R_far (p:=⟨gb608,1,none⟩) (Kd.R_far (p:=⟨gb608,0,none⟩) (Kd.R_types HO_596001.out BK608.out (by decide)) (fun _ hk=>hk.2) (.string (t591.extract 0 ((ji32) : Int).toNat))) (fun _ hk=>hk.2) (.slice Ao12 y604.length co12)) (fun _ h_=>h_.1)))).2.2) KL69.out)|(with_reducible refine Kd.C_alloc ?_ _)|(with_reducible refine Kd.C_drewN ?_ _)|(with_reducible refine Kd.C_drew ?_)));(case side2=>exact HC607.out);(case side3=>first|(with_reducible exact HG.out)|exact GV_below HG.out (puN HB.out GE595.out GE608.out));rintro e w74 ⟨rfl,hb⟩;have n0_:=m_ (Kd.R_below (by (with_reducible repeat (first|apply Kd.R_alloc|apply Kd.R_drewN|apply Kd.R_drew));exact (Kd.R_mono (Kd.R_far (p:=⟨gb608,1,none⟩) (Kd.R_far (p:=⟨gb608,0,none⟩) (Kd.R_types HO_596001.out BK608.out (by decide)) (fun _ hk=>hk.2) (.string (t591.extract 0 ((ji32) : Int).toNat))) (fun _ hk=>hk.2) (.slice Ao12 y604.length co12)) (fun _ h_=>h_.1))) hb);have n1_:=m_ (Kd.R_below (by (with_reducible repeat (first|apply Kd.R_alloc|apply Kd.R_drewN|apply Kd.R_drew));exact (Kd.R_mono (Kd.R_far (p:=⟨gb608,1,none⟩) (Kd.R_far (p:=⟨gb608,0,none⟩) (Kd.R_types HO603.out BK608.out (by decide)) (fun _ hk=>hk.2) (.string (t591.extract 0 ((ji32) : Int).toNat))) (fun _ hk=>hk.2) (.slice Ao12 y604.length co12)) (fun _ h_=>h_.1))) hb);have n2_:=m_ (blk_below (g:=gb595) (o:=.cells #[.string t591,.slice Ao12 t592.length co12] 25 (0,0)) (by (with_reducible repeat first|apply b1_|apply b2_|apply b3_);refine b4_ ?_ NB595_608.out _;(with_reducible repeat first|apply b1_|apply b2_|apply b3_);refine b4_ ?_ NB595_608.out _;(with_reducible repeat first|apply b1_|apply b2_|apply b3_);exact BK595.out) hb);have n3_:=m_ (blk_below (g:=gb608) (o:=.cells #[.string (t591.extract 0 ((ji32) : Int).toNat),.slice Ao12 y604.length co12] 25 (0,0)) (by (with_reducible repeat first|apply b1_|apply b2_|apply b3_);refine blk_put (cs:=#[.string (t591.extract 0 ((ji32) : Int).toNat),.slice none 0 0]) ?_ 1 _ rfl;(with_reducible repeat first|apply b1_|apply b2_|apply b3_);refine blk_put (cs:=#[.string (⟨#[]⟩ : ByteArray),.slice none 0 0]) ?_ 0 _ rfl;(with_reducible repeat first|apply b1_|apply b2_|apply b3_);exact BK608.out) hb);have n4_:=m_ (Kd.C_below (C_takeE Ny604.out ((Kd.R_reads' (by (with_reducible repeat (first|apply Kd.R_alloc|apply Kd.R_drewN|apply Kd.R_drew));exact (Kd.R_mono (Kd.R_far (p:=⟨gb608,1,none⟩) (Kd.R_far (p:=⟨gb608,0,none⟩) (Kd.R_types HO_596001.out BK608.out (by decide)) (fun _ hk=>hk.2) (.string (t591.extract 0 ((ji32) : Int).toNat))) (fun _ hk=>hk.2) (.slice Ao12 y604.length co12)) (fun _ h_=>h_.1)))).2.2) KL69.out) hb);have n5_:=m_ (l5_ (puN HB.out GE595.out GE608.out) hb);revert n0_ n1_ n2_ n3_ n4_ n5_;clear HO_596001 HO603 BK595 BK608 HR607 HB;intro HO_596001 HO603 BK595 BK608 HR607 HB;(try clear hb);(try clear hb2);(try clear hk);(try clear hi))|(go_at_call 20;(with_reducible refine (laws_lzBegins.calls t609 t596 false _ A42.out).mono ?_);rintro e w' ⟨rfl,⟨nd,rfl⟩⟩))
             go_ret
             exact ⟨by first|rfl|(simp [e1_,e2_] <;> rfl)|(simp only [← hji32];first|rfl|(simp [e1_,e2_] <;> rfl))|(simp [*,e1_,e2_] <;> rfl)|(simp [e1_,e2_,pk_empty1,pk_empty2];done)|(simp [*,e1_,e2_,pk_empty1,pk_empty2];done),puN HB.out GE595.out GE608.out⟩
           ·rw [if_neg c40] at H
            have c40b0 : (t596.toList == x7_3.toList) = false:=beq_eq_false_iff_ne.mpr c40
            have c40b1 : (t596.toList != x7_3.toList) = true:=bne_iff_ne.mpr c40
            obtain rfl:=Option.some.inj H
            have hcz75_0 : wr.cell? ⟨gb595,0,none⟩ = some (.string t591):=(c_ BK595.out 0).trans rfl
            have hcz75_1 : wr.cell? ⟨gb595,1,none⟩ = some (.slice Ao12 t592.length co12):=(c_ BK595.out 1).trans rfl
            have hfz75_0:=f_ BK595.out 0
            have hfz75_1:=f_ BK595.out 1
            have qE76 : ((t601.length : Int) : Int) ≤ ((t592.length : Int) : Int):=of_decide_eq_true asm
            obtain ⟨i0E76,hi0E76,_,hszE76,_⟩:=info_parts info31
            have hcutE76:=cut_to (P:=Tryz.prog) 23 31 .i64 Tryz.underlying23 hi0E76 Ao12 t592.length co12 (t601.length : Int) (of_decide_eq_true asm) qE76 (Kd.R_reads' HO_596001.out).2.1
            have hyE76 : y604.length = ((t601.length : Int) : Int).toNat:=(by rw [Ny604.out,List.length_take];omega)
            rw [← hyE76] at hcutE76
            clear hyE76 hi0E76 hszE76
            replace qE76:=eq_true qE76
            try go_wp2
            have n0_:=m_ (Kd.R_drew HO_596001.out)
            have n1_:=m_ (b2_ BK595.out)
            have n2_:=m_ (l3_ HB.out)
            clear HO_596001
            clear BK595
            clear HB
            have HO_596001:=n0_
            have BK595:=n1_
            have HB:=n2_
            clear n0_ n1_ n2_
            refine start_ (n:=16) (S:=fun w'=>w'.cell? ⟨gb595,0,none⟩ = some (.string t591) ∧ w'.cell? ⟨gb595,1,none⟩ = some (.slice Ao12 t592.length co12)) (ds:=[]) #[false,false,false,false,false,false,false,false,false,false,false,false,false,false,false,false] (by kernel_rfl) rfl rfl ⟨(c_ BK595.out 0).trans rfl,(c_ BK595.out 1).trans rfl⟩ (fun hHeld=>?_);refine with_tabW laws_FnStreamOut.tab13 laws_FnStreamOut.bits13 (fun HT_ HW_=>?_)
            generalize wr.drew = w77 at HO_596001 BK595 HB hHeld ⊢
            refine pureA 0 (some 58) HT_.out ?_
            refine pureA 2 (some 60) HT_.out ?_
            refine pureA 4 (some 62) HT_.out ?_
            refine pureA 6 (some 64) HT_.out ?_
            refine pureA 8 (some 66) HT_.out ?_
            refine takeA 1 (some 59) rfl rfl HT_.out HW_.out hHeld ?_ (by rintro w' ⟨s0,s1⟩;go_simp;with_reducible rfl)
            refine pureA 3 (some 61) HT_.out ?_
            refine takeA 5 (some 63) rfl rfl HT_.out HW_.out hHeld ?_ (by rintro w' ⟨s0,s1⟩;go_simp;with_reducible rfl)
            refine takeA 7 (some 65) rfl rfl HT_.out HW_.out hHeld ?_ (by rintro w' ⟨s0,s1⟩;go_simp;with_reducible rfl)
            refine pureA 9 (some 67) HT_.out ?_
            refine join_ (σ:=Value × Nat) 1 #[true,true,true,true,true,true,true,true,true,true,true,true,true,true,true,false] (fun s_=>[(68,s_.1),(10,.pointer (some ⟨s_.2,0,none⟩)),(69,.int .i64 (t601.length : Int)),(70,.slice Ao12 y604.length co12),(71,.agg #[.string (t591.extract 0 ((ji32) : Int).toNat),.slice Ao12 y604.length co12])]) (fun s_ w'=>(w'.cell? ⟨gb595,0,none⟩ = some (.string t591) ∧ w'.cell? ⟨gb595,1,none⟩ = some (.slice Ao12 t592.length co12)) ∧ (Kd.R k51 51 w' w.heap.size (fun _=>True) s_.1 t601) ∧ (Kd.R k31 31 w' w.heap.size (fun _=>True) (.slice Ao12 t592.length co12) t592) ∧ (w'.heap[gb595]? = some (.cells #[.string t591,.slice Ao12 t592.length co12] 25 (0,0))) ∧ (w'.heap[s_.2]? = some (.cells #[.string (⟨#[]⟩ : ByteArray),.slice none 0 0] 25 (0,0))) ∧ (w.heap.size ≤ s_.2) ∧ (w.heap.size ≤ s_.2) ∧ (gb595 ≠ s_.2) ∧ (s_.2 ≠ gb595) ∧ (Below w.heap.size w w')) ?_ ?_
            rotate_left
            ·intro hCont
             refine two_ (i:=10) (j:=14) (Ni:=some 68) (Nj:=some 10) #[true,true,true,true,true,true,true,true,true,true,true,false,false,false,false,false] #[true,true,true,true,true,true,true,true,true,true,false,false,false,false,true,false] rfl rfl rfl rfl (two_of HT_.out (by kernel_rfl)) (by decide) (by decide) (fun K hK=>?_) (fun K hK=>?_)
             ·skip
              refine goes_ Tryz.func19 (by kernel_rfl) rfl #[.string (t591.extract 0 ((ji32) : Int).toNat)] (by rfl) rfl rfl (by (try simp only [List.map_toArray,List.map_cons,List.map_nil]);first|done|(simp only [hji32];rfl)|rfl|(simp only [List.length_drop,List.length_take];rfl)) ?_
              with_reducible refine (impl_TextPieces.calls k3 (t591.extract 0 ((ji32) : Int).toNat) t601 _ ?side1 A37.out).mono ?_
              (case side1=>first|(with_reducible exact HG.out)|exact GV_below HG.out (puM HB.out GE595.out))
              rintro e w78 ⟨v602,rfl,ho0,hb⟩
              refine ⟨_,rfl,?_⟩
              have n0_:=m_ (Kd.R_below (puR HO_596001.out) hb)
              have n1_:=m_ (Kd.R_lower ho0 (l6_ (puM HB.out GE595.out)))
              have n2_:=m_ (blk_below (g:=gb595) (o:=.cells #[.string t591,.slice Ao12 t592.length co12] 25 (0,0)) (puB BK595.out) hb)
              have n3_:=m_ (l5_ (puM HB.out GE595.out) hb)
              clear HO_596001
              clear BK595
              clear HB
              have HO_596001:=n0_
              have HO603:=n1_
              have BK595:=n2_
              have HB:=n3_
              clear n0_ n1_ n2_ n3_
              (try clear hb)
              (try clear hb2)
              (try clear hk)
              (try clear hi)
              (try clear ho0)
              obtain ⟨Ao79,co79,eo79⟩:=Kd.R_slice HO603.out
              (first|subst eo79|(injection eo79 with f1_ f2_ f3_;have f4_:=f1_.symm;have f5_:=f3_.symm;clear f1_ f2_ f3_;subst f4_;subst f5_))
              refine hK.out _ _ ⟨(c_ BK595.out 0).trans rfl,(c_ BK595.out 1).trans rfl⟩ (fun hHeld=>?_)
              clear hK K
              refine norm_ (a':=?_) ?_ ?_
              rotate_left
              ·show Act.put _ (some 68) _ = _
               simp only [Act.put,s1_,s2_,s3_,i64_w,i32_w]
               rfl
              refine pureA 11 (some 69) HT_.out ?_
              refine pureA 12 (some 70) HT_.out ?_
              refine pureA 13 (some 71) HT_.out ?_
              refine one_ (i:=14) (N:=some 10) #[true,true,true,true,true,true,true,true,true,true,true,true,true,true,true,false] rfl rfl (one_of HT_.out (by kernel_rfl)) (by decide) (fun K hK=>?_)
              refine box_step ?hg (N:=10) ?hd (cs:=#[.string (⟨#[]⟩ : ByteArray),.slice none 0 0]) (t:=25) ?hr ?_;(case hd=>rfl);(case hg=>rfl);(case hr=>first|(go_simp;done)|(go_simp;rfl))
              intro gb608 hg w80 hbox hb
              have n0_:=m_ (Kd.R_below (puR HO_596001.out) hb)
              have n1_:=m_ (Kd.R_below (puR HO603.out) hb)
              have n2_:=m_ (blk_below (g:=gb595) (o:=.cells #[.string t591,.slice Ao12 t592.length co12] 25 (0,0)) (puB BK595.out) hb)
              have n3_:=m_ (l5_ (puM HB.out GE595.out) hb)
              have n4_:=m_ (hbox)
              have n5_:=m_ ((by rw [hg];exact (l6_ (puM HB.out GE595.out)) : w.heap.size ≤ gb608))
              have n6_:=m_ ((by rw [hg];exact (l6_ (puM HB.out GE595.out)) : w.heap.size ≤ gb608))
              have n7_:=m_ ((by rw [hg];exact Nat.ne_of_lt (blk_lt (g:=gb595) (o:=.cells #[.string t591,.slice Ao12 t592.length co12] 25 (0,0)) (puB BK595.out)) : gb595 ≠ gb608))
              have n8_:=m_ ((by rw [hg];exact Nat.ne_of_gt (blk_lt (g:=gb595) (o:=.cells #[.string t591,.slice Ao12 t592.length co12] 25 (0,0)) (puB BK595.out)) : gb608 ≠ gb595))
              clear HO_596001
              clear HO603
              clear BK595
              clear HB
              have HO_596001:=n0_
              have HO603:=n1_
              have BK595:=n2_
              have HB:=n3_
              have BK608:=n4_
              have GW608:=n5_
              have GE608:=n6_
              have NB595_608:=n7_
              have NB608_595:=n8_
              clear n0_ n1_ n2_ n3_ n4_ n5_ n6_ n7_ n8_
              clear hb hbox hg
              refine hK.out _ _ ⟨(c_ BK595.out 0).trans rfl,(c_ BK595.out 1).trans rfl⟩ (fun hHeld=>?_)
              clear hK K
              refine norm_ (a':=?_) ?_ ?_
              rotate_left
              ·show Act.put _ (some 10) _ = _
               simp only [Act.put,s1_,s2_,s3_,i64_w,i32_w]
               rfl
              exact norm_ (by simp only [putAll,Act.put,s1_,s2_,s3_]) (hCont (.slice Ao79 t601.length co79,gb608) _ ⟨hHeld,(puR HO603.out),(puR HO_596001.out),(puB BK595.out),(puB BK608.out),GW608.out,GE608.out,NB595_608.out,NB608_595.out,(puN HB.out GE595.out GE608.out)⟩)
             ·skip
              refine box_step ?hg (N:=10) ?hd (cs:=#[.string (⟨#[]⟩ : ByteArray),.slice none 0 0]) (t:=25) ?hr ?_;(case hd=>rfl);(case hg=>rfl);(case hr=>first|(go_simp;done)|(go_simp;rfl))
              intro gb608 hg w78 hbox hb
              have n0_:=m_ (Kd.R_below (puR HO_596001.out) hb)
              have n1_:=m_ (blk_below (g:=gb595) (o:=.cells #[.string t591,.slice Ao12 t592.length co12] 25 (0,0)) (puB BK595.out) hb)
              have n2_:=m_ (l5_ (puM HB.out GE595.out) hb)
              have n3_:=m_ (hbox)
              have n4_:=m_ ((by rw [hg];exact (l6_ (puM HB.out GE595.out)) : w.heap.size ≤ gb608))
              have n5_:=m_ ((by rw [hg];exact (l6_ (puM HB.out GE595.out)) : w.heap.size ≤ gb608))
              have n6_:=m_ ((by rw [hg];exact Nat.ne_of_lt (blk_lt (g:=gb595) (o:=.cells #[.string t591,.slice Ao12 t592.length co12] 25 (0,0)) (puB BK595.out)) : gb595 ≠ gb608))
              have n7_:=m_ ((by rw [hg];exact Nat.ne_of_gt (blk_lt (g:=gb595) (o:=.cells #[.string t591,.slice Ao12 t592.length co12] 25 (0,0)) (puB BK595.out)) : gb608 ≠ gb595))
              clear HO_596001
              clear BK595
              clear HB
              have HO_596001:=n0_
              have BK595:=n1_
              have HB:=n2_
              have BK608:=n3_
              have GW608:=n4_
              have GE608:=n5_
              have NB595_608:=n6_
              have NB608_595:=n7_
              clear n0_ n1_ n2_ n3_ n4_ n5_ n6_ n7_
              clear hb hbox hg
              refine hK.out _ _ ⟨(c_ BK595.out 0).trans rfl,(c_ BK595.out 1).trans rfl⟩ (fun hHeld=>?_)
              clear hK K
              refine norm_ (a':=?_) ?_ ?_
              rotate_left
              ·show Act.put _ (some 10) _ = _
               simp only [Act.put,s1_,s2_,s3_,i64_w,i32_w]
               rfl
              refine one_ (i:=10) (N:=some 68) #[true,true,true,true,true,true,true,true,true,true,true,false,false,false,true,false] rfl rfl (one_of HT_.out (by kernel_rfl)) (by decide) (fun K hK=>?_)
              refine goes_ Tryz.func19 (by kernel_rfl) rfl #[.string (t591.extract 0 ((ji32) : Int).toNat)] (by rfl) rfl rfl (by (try simp only [List.map_toArray,List.map_cons,List.map_nil]);first|done|(simp only [hji32];rfl)|rfl|(simp only [List.length_drop,List.length_take];rfl)) ?_
              with_reducible refine (impl_TextPieces.calls k3 (t591.extract 0 ((ji32) : Int).toNat) t601 _ ?side1 A37.out).mono ?_
              (case side1=>first|(with_reducible exact HG.out)|exact GV_below HG.out (puN HB.out GE595.out GE608.out))
              rintro e w79 ⟨v602,rfl,ho0,hb⟩
              refine ⟨_,rfl,?_⟩
              have n0_:=m_ (Kd.R_below (puR HO_596001.out) hb)
              have n1_:=m_ (Kd.R_lower ho0 (l6_ (puN HB.out GE595.out GE608.out)))
              have n2_:=m_ (blk_below (g:=gb595) (o:=.cells #[.string t591,.slice Ao12 t592.length co12] 25 (0,0)) (puB BK595.out) hb)
              have n3_:=m_ (blk_below (g:=gb608) (o:=.cells #[.string (⟨#[]⟩ : ByteArray),.slice none 0 0] 25 (0,0)) (puB BK608.out) hb)
              have n4_:=m_ (l5_ (puN HB.out GE595.out GE608.out) hb)
              clear HO_596001
              clear BK595
              clear BK608
              clear HB
              have HO_596001:=n0_
              have HO603:=n1_
              have BK595:=n2_
              have BK608:=n3_
              have HB:=n4_
              clear n0_ n1_ n2_ n3_ n4_
              (try clear hb)
              (try clear hb2)
              (try clear hk)
              (try clear hi)
              (try clear ho0)
              obtain ⟨Ao80,co80,eo80⟩:=Kd.R_slice HO603.out
              (first|subst eo80|(injection eo80 with f1_ f2_ f3_;have f4_:=f1_.symm;have f5_:=f3_.symm;clear f1_ f2_ f3_;subst f4_;subst f5_))
              refine hK.out _ _ ⟨(c_ BK595.out 0).trans rfl,(c_ BK595.out 1).trans rfl⟩ (fun hHeld=>?_)
              clear hK K
              refine norm_ (a':=?_) ?_ ?_
              rotate_left
              ·show Act.put _ (some 68) _ = _
               simp only [Act.put,s1_,s2_,s3_,i64_w,i32_w]
               rfl
              refine pureA 11 (some 69) HT_.out ?_
              refine pureA 12 (some 70) HT_.out ?_
              refine pureAL 13 (some 71) #[true,true,true,true,true,true,true,true,true,true,true,true,true,true,true,false] HT_.out ?_
              exact norm_ (by simp only [putAll,Act.put,s1_,s2_,s3_]) (hCont (.slice Ao80 t601.length co80,gb608) _ ⟨hHeld,(puR HO603.out),(puR HO_596001.out),(puB BK595.out),(puB BK608.out),GW608.out,GE608.out,NB595_608.out,NB608_595.out,(puN HB.out GE595.out GE608.out)⟩)
            rintro ⟨v602,gb608⟩ w81 ⟨hS_,h0_,h1_,h2_,h3_,h4_,h5_,h6_,h7_,h8_⟩
            have n0_ : Aside0 (Kd.R k51 51 w81 w.heap.size (fun _=>True) v602 t601):=⟨h0_⟩
            have n1_ : Aside0 (Kd.R k31 31 w81 w.heap.size (fun _=>True) (.slice Ao12 t592.length co12) t592):=⟨h1_⟩
            have n2_ : Aside0 (w81.heap[gb595]? = some (.cells #[.string t591,.slice Ao12 t592.length co12] 25 (0,0))):=⟨h2_⟩
            have n3_ : Aside0 (w81.heap[gb608]? = some (.cells #[.string (⟨#[]⟩ : ByteArray),.slice none 0 0] 25 (0,0))):=⟨h3_⟩
            have n4_ : Aside0 (w.heap.size ≤ gb608):=⟨h4_⟩
            have n5_ : Aside0 (w.heap.size ≤ gb608):=⟨h5_⟩
            have n6_ : Aside0 (gb595 ≠ gb608):=⟨h6_⟩
            have n7_ : Aside0 (gb608 ≠ gb595):=⟨h7_⟩
            have n8_ : Aside0 (Below w.heap.size w w81):=⟨h8_⟩
            clear HO_596001
            clear BK595
            clear HB
            clear h0_ h1_ h2_ h3_ h4_ h5_ h6_ h7_ h8_
            have HO603:=n0_
            have HO_596001:=n1_
            have BK595:=n2_
            have BK608:=n3_
            have GW608:=n4_
            have GE608:=n5_
            have NB595_608:=n6_
            have NB608_595:=n7_
            have HB:=n8_
            clear n0_ n1_ n2_ n3_ n4_ n5_ n6_ n7_ n8_
            have hHeld : w81.cell? ⟨gb595,0,none⟩ = some (.string t591) ∧ w81.cell? ⟨gb595,1,none⟩ = some (.slice Ao12 t592.length co12):=hS_
            obtain ⟨Ao82,co82,eo82⟩:=Kd.R_slice HO603.out
            (first|subst eo82|(injection eo82 with f1_ f2_ f3_;have f4_:=f1_.symm;have f5_:=f3_.symm;clear f1_ f2_ f3_;subst f4_;subst f5_))
            have q83 : ((t601.length : Int) : Int) ≤ ((t592.length : Int) : Int):=of_decide_eq_true asm
            obtain ⟨i083,hi083,_,hsz83,_⟩:=info_parts info31
            have hroom83 : t592.length ≤ co12:=(Kd.R_reads' HO_596001.out).2.1
            have hC83 : Kd.C k31 _ Ao12 t592.length t592:=(Kd.R_reads' HO_596001.out).2.2
            have hcut83:=cut_to (P:=Tryz.prog) 23 31 .i64 Tryz.underlying23 hi083 Ao12 t592.length co12 (t601.length : Int) (of_decide_eq_true asm) q83 hroom83
            have hr83:=Kd.C_take (m:=((t601.length : Int) : Int).toNat) hC83 (by omega)
            have hy83 : y604.length = ((t601.length : Int) : Int).toNat:=(by rw [Ny604.out,List.length_take];omega)
            rw [← Ny604.out] at hr83
            rw [← hy83] at hcut83
            have HR607:=m_ hr83
            have HC607:=m_ (show y604.length ≤ co12 from by omega)
            clear hr83 hC83 hroom83 hi083 hsz83
            have KY83:=m_ hy83
            clear hy83
            have KL83:=m_ (show ((t601.length : Int) : Int).toNat ≤ t592.length from by omega)
            replace q83:=eq_true q83
            refine norm_ (a':=?_) ?_ ?_
            rotate_left
            ·simp only [putAll,Act.put,s1_,s2_,s3_]
             rfl
            refine one_ (i:=15) (N:=none) #[true,true,true,true,true,true,true,true,true,true,true,true,true,true,true,true] rfl rfl (one_of HT_.out (by kernel_rfl)) (by decide) (fun K hK=>?_)
            have hs84 : w81.cell? ⟨gb608,0,none⟩ = some (.string (⟨#[]⟩ : ByteArray)):=(c_ BK608.out 0).trans rfl
            have hfs84:=f_ BK608.out 0
            have hns84_0:=NB595_608.out
            have hms84_0:=NB608_595.out
            have hs85 : w81.cell? ⟨gb608,1,none⟩ = some (.slice none 0 0):=(c_ BK608.out 1).trans rfl
            have hfs85:=f_ BK608.out 1
            have hns85_0:=NB595_608.out
            have hms85_0:=NB608_595.out
            refine skip_ (w1:=?_) (by rfl) rfl ?_ ?_
            rotate_left
            ·go_simp
             rfl
            refine hK.out _ _ ⟨((cell_far (p:=⟨gb608,_,none⟩) NB595_608.out _).trans (((cell_far (p:=⟨gb608,_,none⟩) NB595_608.out _).trans (hHeld.1)))),((cell_far (p:=⟨gb608,_,none⟩) NB595_608.out _).trans (((cell_far (p:=⟨gb608,_,none⟩) NB595_608.out _).trans (hHeld.2))))⟩ (fun hHeld=>?_)
            clear hK K
            refine done_ (done_of HT_.out (by kernel_rfl)) ?_
            try go_wp2
            go_ret
            exact ⟨by first|rfl|(simp [e1_,e2_] <;> rfl)|(simp only [← hji32];first|rfl|(simp [e1_,e2_] <;> rfl))|(simp [*,e1_,e2_] <;> rfl)|(simp [e1_,e2_,pk_empty1,pk_empty2];done)|(simp [*,e1_,e2_,pk_empty1,pk_empty2];done),puN HB.out GE595.out GE608.out⟩

/-- THE ONE PURE STATEMENT of laws_FnStreamOut: yours. -/
def laws_FnStreamOut.Pure : Prop := ∀ (l0 : List Int) (l1 : List Int), l0.length ≤ maxLen → l0.length * 1 ≤ 140737488351232 → (∀ x ∈ l0, (Lit.int .u8 x).wf = true) → l1.length ≤ maxLen → l1.length * 1 ≤ 140737488351232 → (∀ x ∈ l1, (Lit.int .u8 x).wf = true) → ∃ k, laws_FnStreamOut.f k l0 l1 = some true
theorem laws_FnStreamOut.walk (P : laws_FnStreamOut.Pure) (a0 : Option Addr) (len0 cap0 : Nat) (z0 : List Int) (a1 : Option Addr) (len1 cap1 : Nat) (z1 : List Int) (w : World) (hG : GV w) (w0 : (a0 = none ∧ len0 = 0 ∧ cap0 = 0 ∧ z0 = []) ∨ ∃ x, a0 = some x ∧ len0 ≤ cap0 ∧ cap0 ≤ maxLen ∧ z0.length = cap0 ∧ (∀ i, i < z0.length → w.cell? (x.add i) = some (.int .u8 (z0.getD i 0))) ∧ ∀ n ∈ z0, (Lit.int .u8 n).wf = true) (y0 : len0 * 1 ≤ 140737488351232) (w1 : (a1 = none ∧ len1 = 0 ∧ cap1 = 0 ∧ z1 = []) ∨ ∃ x, a1 = some x ∧ len1 ≤ cap1 ∧ cap1 ≤ maxLen ∧ z1.length = cap1 ∧ (∀ i, i < z1.length → w.cell? (x.add i) = some (.int .u8 (z1.getD i 0))) ∧ ∀ n ∈ z1, (Lit.int .u8 n).wf = true) (y1 : len1 * 1 ≤ 140737488351232) :
  Calls Tryz.prog 6 #[.slice a0 len0 cap0,.slice a1 len1 cap1] w fun e w'=>e = .returned (.bool true) ∧ Below w.heap.size w w':=by
 obtain ⟨l0,rfl,hr0,hm0,hw0,hc0⟩:=ReadsInt.ofRowC w0
 obtain ⟨l1,rfl,hr1,hm1,hw1,hc1⟩:=ReadsInt.ofRowC w1
 obtain ⟨k,h⟩:=P l0 l1 hm0 y0 hw0 hm1 y1 hw1
 refine (laws_FnStreamOut.calls k _ _ l0 _ _ l1 true w (Kd.C_of_reads (d:=(0 : Int)) (h1:=fun _=>rfl) hr0) hc0 (Kd.C_of_reads (d:=(0 : Int)) (h1:=fun _=>rfl) hr1) hc1 hG h).mono ?_
 rintro e w' ⟨rfl,hd⟩
 exact ⟨rfl,hd⟩

end Go.Proofs.YtkcjmmhleepjeaaGreatDoor.A
