-- Printed by myprint.py (wip/tools) out of the translation. Not trusted: Lean checks it.
import Derived.Test.YtkcjmmhleepjeaaDoorAx0
import Derived.Test.YtkcjmmhleepjeaaDoorAx5
import Derived.Test.YtkcjmmhleepjeaaDoorAx8
import Derived.Test.YtkcjmmhleepjeaaDoorAx15
namespace Go.Proofs.YtkcjmmhleepjeaaDoor.A
open Go.RowKit Go.Proofs.YtkcjmmhleepjeaaDoorW.PrintWords Go.Proofs.YtkcjmmhleepjeaaDoorW.PrintLast Go.Proofs.YtkcjmmhleepjeaaDoorW.PrintMore
attribute [local go_sem] max2_int min2_int max_two min_two max_three min_three max_four min_four
set_option linter.unusedVariables false
set_option linter.unusedSimpArgs false

/-! ### laws_FnStreamOk: function 7 -/
mutual
def laws_FnStreamOk.j0 : Nat → Bool → Bool → ByteArray → List (S41) → Option (Bool)
 | 0, _, _, _, _ => none
 | k + 1, x4, x22, x469000, x469001 => if x22 = true then ((spec_StreamOk.f k x469000 x469001).bind fun t471 => (some (x4 == t471))) else ((impl_TextPieces.f k x469000).bind fun t472 => (laws_FnStreamOk.l0 k t472 (t472.length : Int) 0 x469000 x469001))
def laws_FnStreamOk.l0 : Nat → List (S45) → Int → Int → ByteArray → List (S41) → Option (Bool)
 | 0, _, _, _, _, _ => none
 | k + 1, x5, x6, x7, x469000, x469001 => if x7 < x6 then (if 0 ≤ x7 then (if x7 < (x469001.length : Int) then (if x7 < (x5.length : Int) then (if ((rd_T41 x469001 x7).f0) = ((rd_T45 x5 x7).f0) then (if ((rd_T41 x469001 x7).f1).toList = ([] : List UInt8) then (some false) else (laws_FnStreamOk.l0 k x5 x6 (wrap64 (x7 + 1)) x469000 x469001)) else (some false)) else (none)) else (none)) else (none)) else (if (x469001.length : Int) = x6 then (if x6 = 0 then (some true) else (if 0 ≤ (wrap64 (x6 - 1)) then (if (wrap64 (x6 - 1)) ≤ (x469001.length : Int) then ((impl_StreamOk.f k x469000 (x469001.take ((wrap64 (x6 - 1)) : Int).toNat)).bind fun t482 => (some (!t482))) else (none)) else (none))) else (some false))
end
def laws_FnStreamOk.f (k : Nat) (l0 : List Int) : Option (Bool) := if (l0.length : Int) > 1048576 then (some true) else ((spec_DrawStreamOk.f k l0).bind fun bt464 => ((impl_StreamOk.f k bt464.1 bt464.2).bind fun t469 => ((spec_StreamOk.f k bt464.1 bt464.2).bind fun t470 => (if (t469 != t470) = true then (laws_FnStreamOk.j0 k t469 true bt464.1 bt464.2) else (laws_FnStreamOk.j0 k t469 (!t469) bt464.1 bt464.2)))))
theorem laws_FnStreamOk.mono_l : ∀ k, (∀ y0 y1 y2 y3, LeO (laws_FnStreamOk.j0 k y0 y1 y2 y3) (laws_FnStreamOk.j0 (k + 1) y0 y1 y2 y3)) ∧ (∀ y0 y1 y2 y3 y4, LeO (laws_FnStreamOk.l0 k y0 y1 y2 y3 y4) (laws_FnStreamOk.l0 (k + 1) y0 y1 y2 y3 y4))
 | 0 => ⟨fun _ _ _ _ r h => by simp [laws_FnStreamOk.j0] at h, fun _ _ _ _ _ r h => by simp [laws_FnStreamOk.l0] at h⟩
 | k + 1 => by
  obtain ⟨ih0,ih1⟩:=laws_FnStreamOk.mono_l k
  refine ⟨?_,?_⟩
  ·intro y0 y1 y2 y3
   unfold laws_FnStreamOk.j0
   repeat' first
   | (with_reducible exact ih0 _ _ _ _)
   | (with_reducible exact ih1 _ _ _ _ _)
   | (with_reducible exact impl_StreamOk.mono _ _ _)
   | (with_reducible exact impl_TextPieces.mono _ _)
   | (with_reducible exact spec_DrawStreamOk.mono _ _)
   | (with_reducible exact spec_StreamOk.mono _ _ _)
   | (with_reducible exact LeO.refl _)
   | (with_reducible exact LeO.none _)
   | (with_reducible refine LeO.ite ?_ ?_)
   | (with_reducible refine LeO.bind ?_ (fun _ => ?_))
   | exact ih0 _ _ _ _
   | exact ih1 _ _ _ _ _
   | exact impl_StreamOk.mono _ _ _
   | exact impl_TextPieces.mono _ _
   | exact spec_DrawStreamOk.mono _ _
   | exact spec_StreamOk.mono _ _ _
   | exact LeO.none _
   | refine LeO.ite ?_ ?_
   | refine LeO.bind ?_ (fun _ => ?_)
  ·intro y0 y1 y2 y3 y4
   unfold laws_FnStreamOk.l0
   repeat' first
   | (with_reducible exact ih0 _ _ _ _)
   | (with_reducible exact ih1 _ _ _ _ _)
   | (with_reducible exact impl_StreamOk.mono _ _ _)
   | (with_reducible exact impl_TextPieces.mono _ _)
   | (with_reducible exact spec_DrawStreamOk.mono _ _)
   | (with_reducible exact spec_StreamOk.mono _ _ _)
   | (with_reducible exact LeO.refl _)
   | (with_reducible exact LeO.none _)
   | (with_reducible refine LeO.ite ?_ ?_)
   | (with_reducible refine LeO.bind ?_ (fun _ => ?_))
   | exact ih0 _ _ _ _
   | exact ih1 _ _ _ _ _
   | exact impl_StreamOk.mono _ _ _
   | exact impl_TextPieces.mono _ _
   | exact spec_DrawStreamOk.mono _ _
   | exact spec_StreamOk.mono _ _ _
   | exact LeO.none _
   | refine LeO.ite ?_ ?_
   | refine LeO.bind ?_ (fun _ => ?_)
theorem laws_FnStreamOk.mono : ∀ a0 k, LeO (laws_FnStreamOk.f k a0) (laws_FnStreamOk.f (k + 1) a0) := by
 intro a0 k
 obtain ⟨ih0,ih1⟩:=laws_FnStreamOk.mono_l k
 unfold laws_FnStreamOk.f
 repeat' first
   | (with_reducible exact ih0 _ _ _ _)
   | (with_reducible exact ih1 _ _ _ _ _)
   | (with_reducible exact impl_StreamOk.mono _ _ _)
   | (with_reducible exact impl_TextPieces.mono _ _)
   | (with_reducible exact spec_DrawStreamOk.mono _ _)
   | (with_reducible exact spec_StreamOk.mono _ _ _)
   | (with_reducible exact LeO.refl _)
   | (with_reducible exact LeO.none _)
   | (with_reducible refine LeO.ite ?_ ?_)
   | (with_reducible refine LeO.bind ?_ (fun _ => ?_))
   | exact ih0 _ _ _ _
   | exact ih1 _ _ _ _ _
   | exact impl_StreamOk.mono _ _ _
   | exact impl_TextPieces.mono _ _
   | exact spec_DrawStreamOk.mono _ _
   | exact spec_StreamOk.mono _ _ _
   | exact LeO.none _
   | refine LeO.ite ?_ ?_
   | refine LeO.bind ?_ (fun _ => ?_)
def laws_FnStreamOk.T12 : Bool × List (List Nat × List Nat) := (true, [([], []), ([0], [0]), ([], []), ([1, 2], [1, 2]), ([3], [3]), ([4], [4]), ([], []), ([], []), ([6, 7], [6, 7]), ([8], [8]), ([9], [9]), ([5, 10], [5, 10]), ([11], [11]), ([12], [12]), ([13, 12], [12, 13]), ([12], [12]), ([14, 15, 12], [12, 14, 15]), ([16, 12], [12, 16]), ([17, 12], [12, 17]), ([18, 12], [12, 18]), ([12, 19], [12, 19])])
def laws_FnStreamOk.B12 : List Nat := [0, 1, 0, 7, 15, 31, 0, 0, 192, 448, 960, 2047, 4095, 8191, 16383, 8191, 65535, 131071, 262143, 524287, 1048575]
theorem laws_FnStreamOk.tab12 : rtab .any (opsOf Tryd.f7 12) = laws_FnStreamOk.T12 := by kernel_rfl
theorem laws_FnStreamOk.bits12 : waitsOk laws_FnStreamOk.T12.2 laws_FnStreamOk.B12 = true := by kernel_rfl
def laws_FnStreamOk.T14 : Bool × List (List Nat × List Nat) := (true, [([], []), ([0], [0]), ([1], [1]), ([], []), ([2, 3], [2, 3]), ([4], [4]), ([5], [5]), ([6, 5], [5, 6]), ([7, 5, 5], [5, 7]), ([8], [8]), ([9, 8], [8, 9]), ([8], [8]), ([11, 8], [8, 11]), ([8], [8]), ([13, 8], [8, 13]), ([12, 14, 8], [8, 12, 14]), ([10, 15, 8], [8, 10, 15]), ([16, 8, 8], [8, 16]), ([17, 8], [8, 17]), ([8, 18, 5], [5, 8, 18]), ([5, 19], [5, 19]), ([20, 17, 0, 1, 2, 3, 4, 5, 6, 7, 8, 9, 10, 11, 12, 13, 14, 15, 16, 17, 18, 19, 20], [20])])
def laws_FnStreamOk.B14 : List Nat := [0, 1, 3, 0, 15, 31, 63, 127, 255, 511, 1023, 511, 2559, 511, 8703, 31231, 65535, 131071, 262143, 524287, 1048575, 2097151]
theorem laws_FnStreamOk.tab14 : rtab .any (opsOf Tryd.f7 14) = laws_FnStreamOk.T14 := by kernel_rfl
theorem laws_FnStreamOk.bits14 : waitsOk laws_FnStreamOk.T14.2 laws_FnStreamOk.B14 = true := by kernel_rfl
set_option maxHeartbeats 8000000 in
set_option maxRecDepth 100000 in
theorem laws_FnStreamOk.calls (k : Nat) (A0 : Option Addr) (c0 : Nat) (l0 : List Int) (r : Bool) (w : World) (hr0 : Kd.C (Kd.int .u8) w A0 l0.length l0) (hc0 : l0.length ≤ c0) (hG : GV w) (h : laws_FnStreamOk.f k l0 = some r) :
  Calls Tryd.prog 7 #[.slice A0 l0.length c0] w fun e w'=>e = .returned (.bool r) ∧ Below w.heap.size w w':=by
 have hu29:=Tryd.underlying29
 have HG:=m_ hG
 clear hG
 have HR0:=m_ hr0
 have HC0:=m_ hc0
 clear hr0 hc0
 have HB:=m_ (Below.refl w.heap.size w)
 have H : (if (l0.length : Int) > 1048576 then (some true) else ((spec_DrawStreamOk.f k l0).bind fun bt464=>((impl_StreamOk.f k bt464.1 bt464.2).bind fun t469=>((spec_StreamOk.f k bt464.1 bt464.2).bind fun t470=>(if (t469 != t470) = true then (laws_FnStreamOk.j0 k t469 true bt464.1 bt464.2) else (laws_FnStreamOk.j0 k t469 (!t469) bt464.1 bt464.2)))))) = some r:=h
 clear h
 by_cases c2 : (l0.length : Int) > 1048576
 ·rw [if_pos c2] at H
  have c2b0 : decide (1048576 < (l0.length : Int)) = true:=decide_eq_true c2
  have c2b1 : decide (1048576 < l0.length) = true:=decide_eq_true (by omega)
  clear c2
  obtain rfl:=Option.some.inj H
  go_enter Tryd.func7,Tryd.ntmps7
  go_wp2
  go_ret
  exact ⟨eqs,puL HB.out⟩
 ·rw [if_neg c2] at H
  have c2b0 : decide (1048576 < (l0.length : Int)) = false:=decide_eq_false c2
  have c2b1 : decide (1048576 < l0.length) = false:=decide_eq_false (by omega)
  clear c2
  replace H:=Option.bind_eq_some_iff.mp H
  obtain ⟨⟨t464,t465⟩,A30,H⟩:=H
  replace H : ((impl_StreamOk.f k t464 t465).bind fun t469=>((spec_StreamOk.f k t464 t465).bind fun t470=>(if (t469 != t470) = true then (laws_FnStreamOk.j0 k t469 true t464 t465) else (laws_FnStreamOk.j0 k t469 (!t469) t464 t465)))) = some r:=H
  have A3:=m_ A30
  clear A30
  replace H:=Option.bind_eq_some_iff.mp H
  obtain ⟨t469,A40,H⟩:=H
  replace H : ((spec_StreamOk.f k t464 t465).bind fun t470=>(if (t469 != t470) = true then (laws_FnStreamOk.j0 k t469 true t464 t465) else (laws_FnStreamOk.j0 k t469 (!t469) t464 t465))) = some r:=H
  have A4:=m_ A40
  clear A40
  have HC5:=m_ H
  clear H
  go_enter Tryd.func7,Tryd.ntmps7
  go_upto_region 5 with (first|((with_reducible refine gate_callee (f:=19) rfl ?_);refine goesL_ (some 12) rfl rfl Tryd.func19 (by kernel_rfl) rfl #[.slice A0 l0.length c0] rfl lens ?_;(with_reducible refine (spec_DrawStreamOk.calls k _ _ l0 t464 t465 _ ?side1 ?side2 A3.out).mono ?_);(case side1=>repeat (first|exact HR0.out|(with_reducible refine Kd.C_alloc ?_ _)|(with_reducible refine Kd.C_drewN ?_ _)|(with_reducible refine Kd.C_drew ?_)));(case side2=>exact HC0.out);rintro e w6 ⟨v466,rfl,ho0,hb⟩;refine ⟨_,rfl,?_⟩;have n0_:=m_ (Kd.R_lower ho0 (l6_ (puL HB.out)));have n1_:=m_ (l5_ (puL HB.out) hb);revert n0_ n1_;clear HB;intro HO467 HB;(try clear hb);(try clear hb2);(try clear hk);(try clear hi);(try clear ho0))|((with_reducible refine gate_dst (N:=3) rfl ?_);refine box_event ?hg (N:=3) ?hd (cs:=#[.string (⟨#[]⟩ : ByteArray),.slice none 0 0]) (t:=29) ?hr ?_;(case hd=>rfl);(case hg=>rfl);(case hr=>first|(go_simp;done)|(go_simp;rfl));intro gb468 hg w7 hbox hb;have n0_:=m_ (Kd.R_below (puR HO467.out) hb);have n1_:=m_ (l5_ (puL HB.out) hb);have n2_:=m_ (hbox);have n3_:=m_ ((by rw [hg];exact (l6_ (puL HB.out)) : w.heap.size ≤ gb468));have n4_:=m_ ((by rw [hg];exact (l6_ (puL HB.out)) : w.heap.size ≤ gb468));revert n0_ n1_ n2_ n3_ n4_;clear HO467 HB;intro HO467 HB BK468 GW468 GE468;clear hb hbox hg;have hcz8_0 : w7.cell? ⟨gb468,0,none⟩ = some (.string (⟨#[]⟩ : ByteArray)):=(c_ BK468.out 0).trans rfl;have hcz8_1 : w7.cell? ⟨gb468,1,none⟩ = some (.slice none 0 0):=(c_ BK468.out 1).trans rfl;have hfz8_0:=f_ BK468.out 0;have hfz8_1:=f_ BK468.out 1;obtain ⟨Ao9,co9,eo9⟩:=Kd.R_slice HO467.out;subst eo9)|((with_reducible refine gate_callee (f:=11) rfl ?_);refine goesL_ (some 14) rfl rfl Tryd.func11 (by kernel_rfl) rfl #[.agg #[.string t464,.slice Ao9 t465.length co9]] rfl lens ?_;(with_reducible refine (impl_StreamOk.calls k t464 _ _ t465 t469 _ ?side1 ?side2 ?side3 A4.out).mono ?_);(case side1=>refine (Kd.R_reads' (e:=41) (base:=w.heap.size) (ok:=fun k_=>True) (n:=t465.length) (c:=co9) ?_).2.2;exact (by (with_reducible repeat (first|apply Kd.R_alloc|apply Kd.R_drewN|apply Kd.R_drew));exact (Kd.R_mono (Kd.R_far (p:=⟨gb468,1,none⟩) (Kd.R_far (p:=⟨gb468,0,none⟩) (Kd.R_types HO467.out BK468.out (by decide)) (fun _ hk=>hk.2) (.string t464)) (fun _ hk=>hk.2) (.slice Ao9 t465.length co9)) (fun _ h_=>h_.1))));(case side2=>exact (Kd.R_reads' HO467.out).2.1);(case side3=>first|(with_reducible exact HG.out)|exact GV_below HG.out (puM HB.out GE468.out));rintro e w10 ⟨rfl,hb⟩;refine ⟨_,rfl,?_⟩;have n0_:=m_ (Kd.R_below (by (with_reducible repeat (first|apply Kd.R_alloc|apply Kd.R_drewN|apply Kd.R_drew));exact (Kd.R_mono (Kd.R_far (p:=⟨gb468,1,none⟩) (Kd.R_far (p:=⟨gb468,0,none⟩) (Kd.R_types HO467.out BK468.out (by decide)) (fun _ hk=>hk.2) (.string t464)) (fun _ hk=>hk.2) (.slice Ao9 t465.length co9)) (fun _ h_=>h_.1))) hb);have n1_:=m_ (blk_below (g:=gb468) (o:=.cells #[.string t464,.slice Ao9 t465.length co9] 29 (0,0)) (by (with_reducible repeat first|apply b1_|apply b2_|apply b3_);refine blk_put (cs:=#[.string t464,.slice none 0 0]) ?_ 1 _ rfl;(with_reducible repeat first|apply b1_|apply b2_|apply b3_);refine blk_put (cs:=#[.string (⟨#[]⟩ : ByteArray),.slice none 0 0]) ?_ 0 _ rfl;(with_reducible repeat first|apply b1_|apply b2_|apply b3_);exact BK468.out) hb);have n2_:=m_ (l5_ (puM HB.out GE468.out) hb);revert n0_ n1_ n2_;clear HO467 BK468 HB;intro HO467 BK468 HB;(try clear hb);(try clear hb2);(try clear hk);(try clear hi)))
  (try simp only [Act.put,s1_,s2_,s3_])
  go_cut [22] (fun v22 wc=>∃ (kq : Nat) (x22_4 : Bool),v22 = .bool x22_4 ∧ Aside0 (laws_FnStreamOk.j0 kq t469 x22_4 t464 t465 = some r) ∧ Aside0 (kq ≤ k) ∧ Aside0 (Kd.R k41 41 wc w.heap.size (fun _=>True) (.slice Ao9 t465.length co9) t465) ∧ Aside0 (wc.heap[gb468]? = some (.cells #[.string t464,(.slice Ao9 t465.length co9)] 29 (0,0))) ∧ Aside0 (Below w.heap.size w wc))
  case first =>
   have H:=HC5.out
   clear HC5
   replace H:=Option.bind_eq_some_iff.mp H
   obtain ⟨t470,A110,H⟩:=H
   replace H : (if (t469 != t470) = true then (laws_FnStreamOk.j0 k t469 true t464 t465) else (laws_FnStreamOk.j0 k t469 (!t469) t464 t465)) = some r:=H
   have A11:=m_ A110
   clear A110
   by_cases c12 : (t469 != t470) = true
   ·rw [if_pos c12] at H
    have c12b0 : (t469 != t470) = true:=c12
    (try (have c12b1 : decide (t469 = t470) = false:=by simpa using c12))
    (try (have c12b2 : (t469 == t470) = false:=by simpa using c12))
    (try (have c12b3 : ¬ (t469 = t470):=by simpa using c12))
    clear c12
    (first|rw [c12b0]|(simp only [i64_w,i32_w];rw [c12b0])|skip)
    have H':=m_ H
    clear H
    have hcz13_0 : w10.cell? ⟨gb468,0,none⟩ = some (.string t464):=(c_ BK468.out 0).trans rfl
    have hcz13_1 : w10.cell? ⟨gb468,1,none⟩ = some (.slice Ao9 t465.length co9):=(c_ BK468.out 1).trans rfl
    have hfz13_0:=f_ BK468.out 0
    have hfz13_1:=f_ BK468.out 1
    go_wp2_with (first|((with_reducible refine gate_callee (f:=9) rfl ?_);refine goesL_ (some 17) rfl rfl Tryd.func9 (by kernel_rfl) rfl #[.agg #[.string t464,.slice Ao9 t465.length co9]] rfl lens ?_;(with_reducible refine (spec_StreamOk.calls k t464 _ _ t465 t470 _ ?side1 ?side2 A11.out).mono ?_);(case side1=>repeat (first|exact (Kd.R_reads' HO467.out).2.2|(with_reducible refine Kd.C_alloc ?_ _)|(with_reducible refine Kd.C_drewN ?_ _)|(with_reducible refine Kd.C_drew ?_)));(case side2=>exact (Kd.R_reads' HO467.out).2.1);rintro e w14 ⟨rfl,hb⟩;refine ⟨_,rfl,?_⟩;have n0_:=m_ (Kd.R_below (puR HO467.out) hb);have n1_:=m_ (blk_below (g:=gb468) (o:=.cells #[.string t464,.slice Ao9 t465.length co9] 29 (0,0)) (puB BK468.out) hb);have n2_:=m_ (l5_ (puM HB.out GE468.out) hb);revert n0_ n1_ n2_;clear HO467 BK468 HB;intro HO467 BK468 HB;(try clear hb);(try clear hb2);(try clear hk);(try clear hi)))
    go_meet
    case rel=>exact ⟨_,(true),(by first|rfl|(simp;done)|(simp [*];done)),H',⟨by first|omega|exact Nat.le_refl _⟩,⟨by (with_reducible repeat (first|apply Kd.R_alloc|apply Kd.R_drewN|apply Kd.R_drew));exact HO467.out⟩,⟨by (with_reducible repeat first|apply b1_|apply b2_|apply b3_);exact BK468.out⟩,⟨puM HB.out GE468.out⟩⟩
   ·rw [if_neg c12] at H
    have c12b0 : (t469 != t470) = false:=by simpa using c12
    (try (have c12b1 : decide (t469 = t470) = true:=by simpa using c12))
    (try (have c12b2 : (t469 == t470) = true:=by simpa using c12))
    clear c12
    (first|rw [c12b0]|(simp only [i64_w,i32_w];rw [c12b0])|skip)
    have H':=m_ H
    clear H
    have hcz15_0 : w10.cell? ⟨gb468,0,none⟩ = some (.string t464):=(c_ BK468.out 0).trans rfl
    have hcz15_1 : w10.cell? ⟨gb468,1,none⟩ = some (.slice Ao9 t465.length co9):=(c_ BK468.out 1).trans rfl
    have hfz15_0:=f_ BK468.out 0
    have hfz15_1:=f_ BK468.out 1
    go_wp2_with (first|((with_reducible refine gate_callee (f:=9) rfl ?_);refine goesL_ (some 17) rfl rfl Tryd.func9 (by kernel_rfl) rfl #[.agg #[.string t464,.slice Ao9 t465.length co9]] rfl lens ?_;(with_reducible refine (spec_StreamOk.calls k t464 _ _ t465 t470 _ ?side1 ?side2 A11.out).mono ?_);(case side1=>repeat (first|exact (Kd.R_reads' HO467.out).2.2|(with_reducible refine Kd.C_alloc ?_ _)|(with_reducible refine Kd.C_drewN ?_ _)|(with_reducible refine Kd.C_drew ?_)));(case side2=>exact (Kd.R_reads' HO467.out).2.1);rintro e w16 ⟨rfl,hb⟩;refine ⟨_,rfl,?_⟩;have n0_:=m_ (Kd.R_below (puR HO467.out) hb);have n1_:=m_ (blk_below (g:=gb468) (o:=.cells #[.string t464,.slice Ao9 t465.length co9] 29 (0,0)) (puB BK468.out) hb);have n2_:=m_ (l5_ (puM HB.out GE468.out) hb);revert n0_ n1_ n2_;clear HO467 BK468 HB;intro HO467 BK468 HB;(try clear hb);(try clear hb2);(try clear hk);(try clear hi)))
    go_meet
    case rel=>exact ⟨_,(!t469),(by first|rfl|(simp;done)|(simp [*];done)),H',⟨by first|omega|exact Nat.le_refl _⟩,⟨by (with_reducible repeat (first|apply Kd.R_alloc|apply Kd.R_drewN|apply Kd.R_drew));exact HO467.out⟩,⟨by (with_reducible repeat first|apply b1_|apply b2_|apply b3_);exact BK468.out⟩,⟨puM HB.out GE468.out⟩⟩
  case rest =>
   clear HC5
   try clear c1
   try clear c2
   try clear c2b0
   try clear c2b1
   try clear p2
   try clear c7
   try clear c9
   try clear c11
   try clear c12
   try clear c12b0
   try clear c12b1
   try clear c12b2
   try clear hcz13_0
   try clear hcz13_1
   try clear hcz15_0
   try clear hcz15_1
   try clear hcz8_0
   try clear hcz8_1
   try clear hfz13_0
   try clear hfz13_1
   try clear hfz15_0
   try clear hfz15_1
   try clear hfz8_0
   try clear hfz8_1
   obtain ⟨kq,x22_4,rfl,HA,HJ4,HO_469001,BK468,HB⟩:=hcut
   cases kq with
   | zero => exact absurd HA.out (by simp [laws_FnStreamOk.j0])
   | succ kj4 =>
    have H:=HA.out
    clear HA
    simp only [laws_FnStreamOk.j0] at H
    by_cases c17 : x22_4 = true
    ·subst c17
     have H1 : ((spec_StreamOk.f kj4 t464 t465).bind fun t471=>(some (t469 == t471))) = some r:=by rw [if_pos rfl] at H;exact H
     clear H
     have H:=H1
     clear H1
     replace H:=Option.bind_eq_some_iff.mp H
     obtain ⟨t471,A180,H⟩:=H
     replace H : (some (t469 == t471)) = some r:=H
     have A18:=m_ A180
     clear A180
     obtain rfl:=Option.some.inj H
     have hcz19_0 : wc.cell? ⟨gb468,0,none⟩ = some (.string t464):=(c_ BK468.out 0).trans rfl
     have hcz19_1 : wc.cell? ⟨gb468,1,none⟩ = some (.slice Ao9 t465.length co9):=(c_ BK468.out 1).trans rfl
     have hfz19_0:=f_ BK468.out 0
     have hfz19_1:=f_ BK468.out 1
     go_wp2_with (first|((with_reducible refine gate_callee (f:=9) rfl ?_);refine goesL_ (some 25) rfl rfl Tryd.func9 (by kernel_rfl) rfl #[.agg #[.string t464,.slice Ao9 t465.length co9]] rfl lens ?_;(with_reducible refine (spec_StreamOk.calls kj4 t464 _ _ t465 t471 _ ?side1 ?side2 A18.out).mono ?_);(case side1=>repeat (first|exact (Kd.R_reads' HO_469001.out).2.2|(with_reducible refine Kd.C_alloc ?_ _)|(with_reducible refine Kd.C_drewN ?_ _)|(with_reducible refine Kd.C_drew ?_)));(case side2=>exact (Kd.R_reads' HO_469001.out).2.1);rintro e w20 ⟨rfl,hb⟩;refine ⟨_,rfl,?_⟩;have n0_:=m_ (Kd.R_below (puR HO_469001.out) hb);have n1_:=m_ (blk_below (g:=gb468) (o:=.cells #[.string t464,.slice Ao9 t465.length co9] 29 (0,0)) (puB BK468.out) hb);have n2_:=m_ (l5_ (puM HB.out GE468.out) hb);revert n0_ n1_ n2_;clear HO_469001 BK468 HB;intro HO_469001 BK468 HB;(try clear hb);(try clear hb2);(try clear hk);(try clear hi)))
     go_ret
     exact ⟨eqs,puM HB.out GE468.out⟩
    ·replace c17:=Bool.eq_false_iff.mpr c17
     subst c17
     have H1 : ((impl_TextPieces.f kj4 t464).bind fun t472=>(laws_FnStreamOk.l0 kj4 t472 (t472.length : Int) 0 t464 t465)) = some r:=by rw [if_neg (show ¬ (false = true) by decide)] at H;exact H
     clear H
     have H:=H1
     clear H1
     replace H:=Option.bind_eq_some_iff.mp H
     obtain ⟨t472,A210,H⟩:=H
     replace H : (laws_FnStreamOk.l0 kj4 t472 (t472.length : Int) 0 t464 t465) = some r:=H
     have A21:=m_ A210
     clear A210
     have H':=m_ H
     clear H
     have hcz22_0 : wc.cell? ⟨gb468,0,none⟩ = some (.string t464):=(c_ BK468.out 0).trans rfl
     have hcz22_1 : wc.cell? ⟨gb468,1,none⟩ = some (.slice Ao9 t465.length co9):=(c_ BK468.out 1).trans rfl
     have hfz22_0:=f_ BK468.out 0
     have hfz22_1:=f_ BK468.out 1
     go_wp2_with (first|((with_reducible refine gate_callee (f:=20) rfl ?_);refine goesL_ (some 29) rfl rfl Tryd.func20 (by kernel_rfl) rfl #[.string t464] rfl lens ?_;(with_reducible refine (impl_TextPieces.calls kj4 t464 t472 _ ?side1 A21.out).mono ?_);(case side1=>first|(with_reducible exact HG.out)|exact GV_below HG.out (puM HB.out GE468.out));rintro e w23 ⟨v473,rfl,ho0,hb⟩;refine ⟨_,rfl,?_⟩;have n0_:=m_ (Kd.R_below (puR HO_469001.out) hb);have n1_:=m_ (Kd.R_lower ho0 (l6_ (puM HB.out GE468.out)));have n2_:=m_ (blk_below (g:=gb468) (o:=.cells #[.string t464,.slice Ao9 t465.length co9] 29 (0,0)) (puB BK468.out) hb);have n3_:=m_ (l5_ (puM HB.out GE468.out) hb);revert n0_ n1_ n2_ n3_;clear HO_469001 BK468 HB;intro HO_469001 HO474 BK468 HB;(try clear hb);(try clear hb2);(try clear hk);(try clear hi);(try clear ho0);obtain ⟨Ao24,co24,eo24⟩:=Kd.R_slice HO474.out;subst eo24))
     go_loopg [7] kj4 (fun kq v7 w'=>∃ (x7_2 : Int),v7 = .int .i64 x7_2 ∧ Aside0 (laws_FnStreamOk.l0 kq t472 (t472.length : Int) x7_2 t464 t465 = some r) ∧ Aside0 (kq ≤ kj4) ∧ Aside0 (Kd.R k45 45 w' w.heap.size (fun _=>True) (.slice Ao24 t472.length co24) t472) ∧ Aside0 (Kd.R k41 41 w' w.heap.size (fun _=>True) (.slice Ao9 t465.length co9) t465) ∧ Aside0 (w'.heap[gb468]? = some (.cells #[.string t464,(.slice Ao9 t465.length co9)] 29 (0,0))) ∧ Aside0 (Below w.heap.size w w'))
     case atStart=>exact ⟨(0),(by first|rfl|(simp;done)|(simp [*];done)),H',⟨Nat.le_refl _⟩,⟨by (with_reducible repeat (first|apply Kd.R_alloc|apply Kd.R_drewN|apply Kd.R_drew));exact HO474.out⟩,⟨by (with_reducible repeat (first|apply Kd.R_alloc|apply Kd.R_drewN|apply Kd.R_drew));exact HO_469001.out⟩,⟨by (with_reducible repeat first|apply b1_|apply b2_|apply b3_);exact BK468.out⟩,⟨puM HB.out GE468.out⟩⟩
     case round =>
      clear H'
      try clear c1
      try clear c2
      try clear c2b0
      try clear c2b1
      try clear p2
      try clear c7
      try clear c9
      try clear c11
      try clear c12
      try clear c12b0
      try clear c12b1
      try clear c12b2
      try clear c17
      try clear c19
      try clear c20
      try clear hcz13_0
      try clear hcz13_1
      try clear hcz15_0
      try clear hcz15_1
      try clear hcz19_0
      try clear hcz19_1
      try clear hcz22_0
      try clear hcz22_1
      try clear hcz8_0
      try clear hcz8_1
      try clear hfz13_0
      try clear hfz13_1
      try clear hfz15_0
      try clear hfz15_1
      try clear hfz19_0
      try clear hfz19_1
      try clear hfz22_0
      try clear hfz22_1
      try clear hfz8_0
      try clear hfz8_1
      try clear p2
      obtain ⟨x7_2,rfl,HA,HK2,HO_5,HO_469001,BK468,HB⟩:=hrel
      cases gk with
      | zero => exact absurd HA.out (by simp [laws_FnStreamOk.l0])
      | succ k2 =>
       have H:=HA.out
       clear HA
       simp only [laws_FnStreamOk.l0] at H
       by_cases c25 : x7_2 < (t472.length : Int)
       ·rw [if_pos c25] at H
        have c25b0 : decide (x7_2 < (t472.length : Int)) = true:=decide_eq_true c25
        clear c25
        by_cases c26 : 0 ≤ x7_2
        rotate_left
        ·rw [if_neg c26] at H
         exact absurd H (by simp)
        rw [if_pos c26] at H
        have c26b0 : decide (0 ≤ x7_2) = true:=decide_eq_true c26
        clear c26
        by_cases c27 : x7_2 < (t465.length : Int)
        rotate_left
        ·rw [if_neg c27] at H
         exact absurd H (by simp)
        rw [if_pos c27] at H
        have c27b0 : decide (x7_2 < (t465.length : Int)) = true:=decide_eq_true c27
        clear c27
        by_cases c28 : x7_2 < (t472.length : Int)
        rotate_left
        ·rw [if_neg c28] at H
         exact absurd H (by simp)
        rw [if_pos c28] at H
        have c28b0 : decide (x7_2 < (t472.length : Int)) = true:=decide_eq_true c28
        clear c28
        by_cases c29 : ((rd_T41 t465 x7_2).f0) = ((rd_T45 t472 x7_2).f0)
        ·rw [if_pos c29] at H
         have c29b0 : (((rd_T41 t465 x7_2).f0) == ((rd_T45 t472 x7_2).f0)) = true:=beq_iff_eq.mpr c29
         have c29b1 : (((rd_T41 t465 x7_2).f0) != ((rd_T45 t472 x7_2).f0)) = false:=bne_eq_false_iff_eq.mpr c29
         clear c29
         by_cases c30 : ((rd_T41 t465 x7_2).f1).toList = ([] : List UInt8)
         ·rw [if_pos c30] at H
          have c30b0 : ((rd_T41 t465 x7_2).f1).toList.isEmpty = true:=by simpa using c30
          have c30b1 : (((rd_T41 t465 x7_2).f1).toList == ([] : List UInt8)) = true:=beq_iff_eq.mpr c30
          have c30b2 : (((rd_T41 t465 x7_2).f1).toList != ([] : List UInt8)) = false:=bne_eq_false_iff_eq.mpr c30
          clear c30
          obtain rfl:=Option.some.inj H
          try go_wp2
          have n0_:=m_ (Kd.R_drew HO_5.out)
          have n1_:=m_ (Kd.R_drew HO_469001.out)
          have n2_:=m_ (b2_ BK468.out)
          have n3_:=m_ (l3_ HB.out)
          clear HO_5
          clear HO_469001
          clear BK468
          clear HB
          have HO_5:=n0_
          have HO_469001:=n1_
          have BK468:=n2_
          have HB:=n3_
          clear n0_ n1_ n2_ n3_
          have p475 : 0 ≤ (x7_2 : Int):=of_decide_eq_true asm
          have q475 : x7_2 < (t465.length : Int):=of_decide_eq_true asm
          obtain ⟨ad475,e475,hx475_0,hx475_1⟩:=at_T41 (Kd.R_reads' HO_469001.out).2.2 x7_2 p475 q475
          cases e475
          replace p475:=eq_true p475
          replace q475:=eq_true q475
          have p476 : 0 ≤ (x7_2 : Int):=of_decide_eq_true asm
          have q476 : x7_2 < (t472.length : Int):=of_decide_eq_true asm
          obtain ⟨ad476,e476,hx476_0,hx476_1,hx476_2,hx476_3⟩:=at_T45 (Kd.R_reads' HO_5.out).2.2 x7_2 p476 q476
          cases e476
          replace p476:=eq_true p476
          replace q476:=eq_true q476
          have p477 : 0 ≤ (x7_2 : Int):=of_decide_eq_true asm
          have q477 : x7_2 < (t465.length : Int):=of_decide_eq_true asm
          obtain ⟨ad477,e477,hx477_0,hx477_1⟩:=at_T41 (Kd.R_reads' HO_469001.out).2.2 x7_2 p477 q477
          obtain rfl : ad475 = ad477:=(by injection e477)
          replace p477:=eq_true p477
          replace q477:=eq_true q477
          refine start_ (n:=21) (S:=fun w'=>w'.cell? ⟨gb468,0,none⟩ = some (.string t464) ∧ w'.cell? ⟨gb468,1,none⟩ = some (.slice (some ad475) t465.length co9) ∧ w'.cell? (ad475.add ((x7_2).toNat * 2)) = some (.int .i64 ((rd_T41 t465 x7_2).f0)) ∧ w'.cell? ⟨(ad475.add ((x7_2).toNat * 2)).block,(ad475.add ((x7_2).toNat * 2)).off + 1,none⟩ = some (.string ((rd_T41 t465 x7_2).f1)) ∧ w'.cell? (ad476.add ((x7_2).toNat * 4)) = some (.int .i64 ((rd_T45 t472 x7_2).f0)) ∧ w'.cell? ⟨(ad476.add ((x7_2).toNat * 4)).block,(ad476.add ((x7_2).toNat * 4)).off + 1,none⟩ = some (.bool ((rd_T45 t472 x7_2).f1)) ∧ w'.cell? ⟨(ad476.add ((x7_2).toNat * 4)).block,(ad476.add ((x7_2).toNat * 4)).off + 2,none⟩ = some (.int .i64 ((rd_T45 t472 x7_2).f2.f0)) ∧ w'.cell? ⟨(ad476.add ((x7_2).toNat * 4)).block,(ad476.add ((x7_2).toNat * 4)).off + 3,none⟩ = some (.int .i64 ((rd_T45 t472 x7_2).f2.f1)) ∧ w'.cell? (ad475.add ((x7_2).toNat * 2)) = some (.int .i64 ((rd_T41 t465 x7_2).f0)) ∧ w'.cell? ⟨(ad475.add ((x7_2).toNat * 2)).block,(ad475.add ((x7_2).toNat * 2)).off + 1,none⟩ = some (.string ((rd_T41 t465 x7_2).f1))) (ds:=[]) #[false,false,false,false,false,false,false,false,false,false,false,false,false,false,false,false,false,false,false,false,false] (by kernel_rfl) rfl rfl ⟨(c_ BK468.out 0).trans rfl,(c_ BK468.out 1).trans rfl,hx475_0,hx475_1,hx476_0,hx476_1,hx476_2,hx476_3,hx477_0,hx477_1⟩ (fun hHeld=>?_);refine with_tabW laws_FnStreamOk.tab12 laws_FnStreamOk.bits12 (fun HT_ HW_=>?_)
          generalize wr.drew = w31 at HO_5 HO_469001 BK468 HB hx475_0 hx475_1 hx476_0 hx476_1 hx476_2 hx476_3 hx477_0 hx477_1 hHeld ⊢
          refine pureA 0 (some 37) HT_.out ?_
          refine pureA 2 (some 39) HT_.out ?_
          refine pureA 6 (some 43) HT_.out ?_
          refine pureA 7 (some 44) HT_.out ?_
          refine pureA 8 (some 45) HT_.out ?_
          refine pureA 9 (some 46) HT_.out ?_
          refine takeA 1 (some 38) rfl rfl HT_.out HW_.out hHeld ?_ (by rintro w' ⟨s0,s1,s2,s3,s4,s5,s6,s7,s8,s9⟩;go_simp;with_reducible rfl)
          refine pureA 3 (some 40) HT_.out ?_
          refine pureA 4 (some 41) HT_.out ?_
          refine takeA 5 (some 42) rfl rfl HT_.out HW_.out hHeld ?_ (by rintro w' ⟨s0,s1,s2,s3,s4,s5,s6,s7,s8,s9⟩;go_simp;with_reducible rfl)
          refine takeA 10 (some 47) rfl rfl HT_.out HW_.out hHeld ?_ (by rintro w' ⟨s0,s1,s2,s3,s4,s5,s6,s7,s8,s9⟩;go_simp;with_reducible rfl)
          refine pureA 11 (some 48) HT_.out ?_
          refine pureA 12 (some 49) HT_.out ?_
          refine pureA 13 (some 50) HT_.out ?_
          refine pureA 15 (some 52) HT_.out ?_
          refine takeA 14 (some 51) rfl rfl HT_.out HW_.out hHeld ?_ (by rintro w' ⟨s0,s1,s2,s3,s4,s5,s6,s7,s8,s9⟩;go_simp;with_reducible rfl)
          refine pureA 16 (some 53) HT_.out ?_
          refine pureA 17 (some 54) HT_.out ?_
          refine takeA 18 (some 55) rfl rfl HT_.out HW_.out hHeld ?_ (by rintro w' ⟨s0,s1,s2,s3,s4,s5,s6,s7,s8,s9⟩;go_simp;with_reducible rfl)
          refine pureA 19 (some 56) HT_.out ?_
          refine pureA 20 (some 57) HT_.out ?_
          refine done_ (done_of HT_.out (by kernel_rfl)) ?_
          try go_wp2
          go_ret
          exact ⟨eqs,puM HB.out GE468.out⟩
         ·rw [if_neg c30] at H
          have c30b0 : ((rd_T41 t465 x7_2).f1).toList.isEmpty = false:=by simpa using c30
          have c30b1 : (((rd_T41 t465 x7_2).f1).toList == ([] : List UInt8)) = false:=beq_eq_false_iff_ne.mpr c30
          have c30b2 : (((rd_T41 t465 x7_2).f1).toList != ([] : List UInt8)) = true:=bne_iff_ne.mpr c30
          have H':=m_ H
          clear H
          try go_wp2
          have n0_:=m_ (Kd.R_drew HO_5.out)
          have n1_:=m_ (Kd.R_drew HO_469001.out)
          have n2_:=m_ (b2_ BK468.out)
          have n3_:=m_ (l3_ HB.out)
          clear HO_5
          clear HO_469001
          clear BK468
          clear HB
          have HO_5:=n0_
          have HO_469001:=n1_
          have BK468:=n2_
          have HB:=n3_
          clear n0_ n1_ n2_ n3_
          have p475 : 0 ≤ (x7_2 : Int):=of_decide_eq_true asm
          have q475 : x7_2 < (t465.length : Int):=of_decide_eq_true asm
          obtain ⟨ad475,e475,hx475_0,hx475_1⟩:=at_T41 (Kd.R_reads' HO_469001.out).2.2 x7_2 p475 q475
          cases e475
          replace p475:=eq_true p475
          replace q475:=eq_true q475
          have p476 : 0 ≤ (x7_2 : Int):=of_decide_eq_true asm
          have q476 : x7_2 < (t472.length : Int):=of_decide_eq_true asm
          obtain ⟨ad476,e476,hx476_0,hx476_1,hx476_2,hx476_3⟩:=at_T45 (Kd.R_reads' HO_5.out).2.2 x7_2 p476 q476
          cases e476
          replace p476:=eq_true p476
          replace q476:=eq_true q476
          have p477 : 0 ≤ (x7_2 : Int):=of_decide_eq_true asm
          have q477 : x7_2 < (t465.length : Int):=of_decide_eq_true asm
          obtain ⟨ad477,e477,hx477_0,hx477_1⟩:=at_T41 (Kd.R_reads' HO_469001.out).2.2 x7_2 p477 q477
          obtain rfl : ad475 = ad477:=(by injection e477)
          replace p477:=eq_true p477
          replace q477:=eq_true q477
          refine start_ (n:=21) (S:=fun w'=>w'.cell? ⟨gb468,0,none⟩ = some (.string t464) ∧ w'.cell? ⟨gb468,1,none⟩ = some (.slice (some ad475) t465.length co9) ∧ w'.cell? (ad475.add ((x7_2).toNat * 2)) = some (.int .i64 ((rd_T41 t465 x7_2).f0)) ∧ w'.cell? ⟨(ad475.add ((x7_2).toNat * 2)).block,(ad475.add ((x7_2).toNat * 2)).off + 1,none⟩ = some (.string ((rd_T41 t465 x7_2).f1)) ∧ w'.cell? (ad476.add ((x7_2).toNat * 4)) = some (.int .i64 ((rd_T45 t472 x7_2).f0)) ∧ w'.cell? ⟨(ad476.add ((x7_2).toNat * 4)).block,(ad476.add ((x7_2).toNat * 4)).off + 1,none⟩ = some (.bool ((rd_T45 t472 x7_2).f1)) ∧ w'.cell? ⟨(ad476.add ((x7_2).toNat * 4)).block,(ad476.add ((x7_2).toNat * 4)).off + 2,none⟩ = some (.int .i64 ((rd_T45 t472 x7_2).f2.f0)) ∧ w'.cell? ⟨(ad476.add ((x7_2).toNat * 4)).block,(ad476.add ((x7_2).toNat * 4)).off + 3,none⟩ = some (.int .i64 ((rd_T45 t472 x7_2).f2.f1)) ∧ w'.cell? (ad475.add ((x7_2).toNat * 2)) = some (.int .i64 ((rd_T41 t465 x7_2).f0)) ∧ w'.cell? ⟨(ad475.add ((x7_2).toNat * 2)).block,(ad475.add ((x7_2).toNat * 2)).off + 1,none⟩ = some (.string ((rd_T41 t465 x7_2).f1))) (ds:=[]) #[false,false,false,false,false,false,false,false,false,false,false,false,false,false,false,false,false,false,false,false,false] (by kernel_rfl) rfl rfl ⟨(c_ BK468.out 0).trans rfl,(c_ BK468.out 1).trans rfl,hx475_0,hx475_1,hx476_0,hx476_1,hx476_2,hx476_3,hx477_0,hx477_1⟩ (fun hHeld=>?_);refine with_tabW laws_FnStreamOk.tab12 laws_FnStreamOk.bits12 (fun HT_ HW_=>?_)
          generalize wr.drew = w32 at HO_5 HO_469001 BK468 HB hx475_0 hx475_1 hx476_0 hx476_1 hx476_2 hx476_3 hx477_0 hx477_1 hHeld ⊢
          refine pureA 0 (some 37) HT_.out ?_
          refine pureA 2 (some 39) HT_.out ?_
          refine pureA 6 (some 43) HT_.out ?_
          refine pureA 7 (some 44) HT_.out ?_
          refine pureA 8 (some 45) HT_.out ?_
          refine pureA 9 (some 46) HT_.out ?_
          refine takeA 1 (some 38) rfl rfl HT_.out HW_.out hHeld ?_ (by rintro w' ⟨s0,s1,s2,s3,s4,s5,s6,s7,s8,s9⟩;go_simp;with_reducible rfl)
          refine pureA 3 (some 40) HT_.out ?_
          refine pureA 4 (some 41) HT_.out ?_
          refine takeA 5 (some 42) rfl rfl HT_.out HW_.out hHeld ?_ (by rintro w' ⟨s0,s1,s2,s3,s4,s5,s6,s7,s8,s9⟩;go_simp;with_reducible rfl)
          refine takeA 10 (some 47) rfl rfl HT_.out HW_.out hHeld ?_ (by rintro w' ⟨s0,s1,s2,s3,s4,s5,s6,s7,s8,s9⟩;go_simp;with_reducible rfl)
          refine pureA 11 (some 48) HT_.out ?_
          refine pureA 12 (some 49) HT_.out ?_
          refine pureA 13 (some 50) HT_.out ?_
          refine pureA 15 (some 52) HT_.out ?_
          refine takeA 14 (some 51) rfl rfl HT_.out HW_.out hHeld ?_ (by rintro w' ⟨s0,s1,s2,s3,s4,s5,s6,s7,s8,s9⟩;go_simp;with_reducible rfl)
          refine pureA 16 (some 53) HT_.out ?_
          refine pureA 17 (some 54) HT_.out ?_
          refine takeA 18 (some 55) rfl rfl HT_.out HW_.out hHeld ?_ (by rintro w' ⟨s0,s1,s2,s3,s4,s5,s6,s7,s8,s9⟩;go_simp;with_reducible rfl)
          refine pureA 19 (some 56) HT_.out ?_
          refine pureA 20 (some 57) HT_.out ?_
          refine done_ (done_of HT_.out (by kernel_rfl)) ?_
          try go_wp2
          go_roundg k2
          case measure=>have:=HJ4.out;have:=HK2.out;omega
          case rel=>exact ⟨(wrap64 (x7_2 + 1)),(by first|rfl|(simp;done)|(simp [*];done)),H',⟨by have:=HJ4.out;have:=HK2.out;omega⟩,⟨by (with_reducible repeat (first|apply Kd.R_alloc|apply Kd.R_drewN|apply Kd.R_drew));exact HO_5.out⟩,⟨by (with_reducible repeat (first|apply Kd.R_alloc|apply Kd.R_drewN|apply Kd.R_drew));exact HO_469001.out⟩,⟨by (with_reducible repeat first|apply b1_|apply b2_|apply b3_);exact BK468.out⟩,⟨puM HB.out GE468.out⟩⟩
        ·rw [if_neg c29] at H
         have c29b0 : (((rd_T41 t465 x7_2).f0) == ((rd_T45 t472 x7_2).f0)) = false:=beq_eq_false_iff_ne.mpr c29
         have c29b1 : (((rd_T41 t465 x7_2).f0) != ((rd_T45 t472 x7_2).f0)) = true:=bne_iff_ne.mpr c29
         obtain rfl:=Option.some.inj H
         try go_wp2
         have n0_:=m_ (Kd.R_drew HO_5.out)
         have n1_:=m_ (Kd.R_drew HO_469001.out)
         have n2_:=m_ (b2_ BK468.out)
         have n3_:=m_ (l3_ HB.out)
         clear HO_5
         clear HO_469001
         clear BK468
         clear HB
         have HO_5:=n0_
         have HO_469001:=n1_
         have BK468:=n2_
         have HB:=n3_
         clear n0_ n1_ n2_ n3_
         have p475 : 0 ≤ (x7_2 : Int):=of_decide_eq_true asm
         have q475 : x7_2 < (t465.length : Int):=of_decide_eq_true asm
         obtain ⟨ad475,e475,hx475_0,hx475_1⟩:=at_T41 (Kd.R_reads' HO_469001.out).2.2 x7_2 p475 q475
         cases e475
         replace p475:=eq_true p475
         replace q475:=eq_true q475
         have p476 : 0 ≤ (x7_2 : Int):=of_decide_eq_true asm
         have q476 : x7_2 < (t472.length : Int):=of_decide_eq_true asm
         obtain ⟨ad476,e476,hx476_0,hx476_1,hx476_2,hx476_3⟩:=at_T45 (Kd.R_reads' HO_5.out).2.2 x7_2 p476 q476
         cases e476
         replace p476:=eq_true p476
         replace q476:=eq_true q476
         refine start_ (n:=21) (S:=fun w'=>w'.cell? ⟨gb468,0,none⟩ = some (.string t464) ∧ w'.cell? ⟨gb468,1,none⟩ = some (.slice (some ad475) t465.length co9) ∧ w'.cell? (ad475.add ((x7_2).toNat * 2)) = some (.int .i64 ((rd_T41 t465 x7_2).f0)) ∧ w'.cell? ⟨(ad475.add ((x7_2).toNat * 2)).block,(ad475.add ((x7_2).toNat * 2)).off + 1,none⟩ = some (.string ((rd_T41 t465 x7_2).f1)) ∧ w'.cell? (ad476.add ((x7_2).toNat * 4)) = some (.int .i64 ((rd_T45 t472 x7_2).f0)) ∧ w'.cell? ⟨(ad476.add ((x7_2).toNat * 4)).block,(ad476.add ((x7_2).toNat * 4)).off + 1,none⟩ = some (.bool ((rd_T45 t472 x7_2).f1)) ∧ w'.cell? ⟨(ad476.add ((x7_2).toNat * 4)).block,(ad476.add ((x7_2).toNat * 4)).off + 2,none⟩ = some (.int .i64 ((rd_T45 t472 x7_2).f2.f0)) ∧ w'.cell? ⟨(ad476.add ((x7_2).toNat * 4)).block,(ad476.add ((x7_2).toNat * 4)).off + 3,none⟩ = some (.int .i64 ((rd_T45 t472 x7_2).f2.f1))) (ds:=[]) #[false,false,false,false,false,false,false,false,false,false,false,false,false,false,false,false,false,false,false,false,false] (by kernel_rfl) rfl rfl ⟨(c_ BK468.out 0).trans rfl,(c_ BK468.out 1).trans rfl,hx475_0,hx475_1,hx476_0,hx476_1,hx476_2,hx476_3⟩ (fun hHeld=>?_);refine with_tabW laws_FnStreamOk.tab12 laws_FnStreamOk.bits12 (fun HT_ HW_=>?_)
         generalize wr.drew = w33 at HO_5 HO_469001 BK468 HB hx475_0 hx475_1 hx476_0 hx476_1 hx476_2 hx476_3 hHeld ⊢
         refine pureA 0 (some 37) HT_.out ?_
         refine pureA 2 (some 39) HT_.out ?_
         refine pureA 6 (some 43) HT_.out ?_
         refine pureA 7 (some 44) HT_.out ?_
         refine pureA 8 (some 45) HT_.out ?_
         refine pureA 9 (some 46) HT_.out ?_
         refine takeA 1 (some 38) rfl rfl HT_.out HW_.out hHeld ?_ (by rintro w' ⟨s0,s1,s2,s3,s4,s5,s6,s7⟩;go_simp;with_reducible rfl)
         refine pureA 3 (some 40) HT_.out ?_
         refine pureA 4 (some 41) HT_.out ?_
         refine takeA 5 (some 42) rfl rfl HT_.out HW_.out hHeld ?_ (by rintro w' ⟨s0,s1,s2,s3,s4,s5,s6,s7⟩;go_simp;with_reducible rfl)
         refine takeA 10 (some 47) rfl rfl HT_.out HW_.out hHeld ?_ (by rintro w' ⟨s0,s1,s2,s3,s4,s5,s6,s7⟩;go_simp;with_reducible rfl)
         refine pureA 11 (some 48) HT_.out ?_
         refine pureA 12 (some 49) HT_.out ?_
         refine pureU 13 (some 50) HT_.out ?_
         refine pureU 14 (some 51) HT_.out ?_
         refine pureU 15 (some 52) HT_.out ?_
         refine pureU 16 (some 53) HT_.out ?_
         refine pureU 17 (some 54) HT_.out ?_
         refine pureU 18 (some 55) HT_.out ?_
         refine pureU 19 (some 56) HT_.out ?_
         refine pureA 20 (some 57) HT_.out ?_
         refine done_ (done_of HT_.out (by kernel_rfl)) ?_
         try go_wp2
         go_ret
         exact ⟨eqs,puM HB.out GE468.out⟩
       ·rw [if_neg c25] at H
        have c25b0 : decide (x7_2 < (t472.length : Int)) = false:=decide_eq_false c25
        clear c25
        by_cases c34 : (t465.length : Int) = (t472.length : Int)
        ·rw [if_pos c34] at H
         have c34b0 : ((t465.length : Int) == (t472.length : Int)) = true:=beq_iff_eq.mpr c34
         have c34b1 : ((t465.length : Int) != (t472.length : Int)) = false:=bne_eq_false_iff_eq.mpr c34
         have c34b2 : (t465.length == t472.length) = true:=by first|simpa using c34|(simp at c34 ⊢;omega)
         clear c34
         by_cases c35 : (t472.length : Int) = 0
         ·rw [if_pos c35] at H
          have c35b0 : ((t472.length : Int) == 0) = true:=beq_iff_eq.mpr c35
          have c35b1 : ((t472.length : Int) != 0) = false:=bne_eq_false_iff_eq.mpr c35
          clear c35
          obtain rfl:=Option.some.inj H
          try go_wp2
          have n0_:=m_ (Kd.R_drew HO_5.out)
          have n1_:=m_ (Kd.R_drew HO_469001.out)
          have n2_:=m_ (b2_ BK468.out)
          have n3_:=m_ (l3_ HB.out)
          clear HO_5
          clear HO_469001
          clear BK468
          clear HB
          have HO_5:=n0_
          have HO_469001:=n1_
          have BK468:=n2_
          have HB:=n3_
          clear n0_ n1_ n2_ n3_
          refine start_ (n:=22) (S:=fun w'=>w'.cell? ⟨gb468,0,none⟩ = some (.string t464) ∧ w'.cell? ⟨gb468,1,none⟩ = some (.slice Ao9 t465.length co9)) (ds:=[]) #[false,false,false,false,false,false,false,false,false,false,false,false,false,false,false,false,false,false,false,false,false,false] (by kernel_rfl) rfl rfl ⟨(c_ BK468.out 0).trans rfl,(c_ BK468.out 1).trans rfl⟩ (fun hHeld=>?_);refine with_tabW laws_FnStreamOk.tab14 laws_FnStreamOk.bits14 (fun HT_ HW_=>?_)
          generalize wr.drew = w36 at HO_5 HO_469001 BK468 HB hHeld ⊢
          refine pureA 0 (some 58) HT_.out ?_
          refine pureA 3 (some 61) HT_.out ?_
          refine takeA 1 (some 59) rfl rfl HT_.out HW_.out hHeld ?_ (by rintro w' ⟨s0,s1⟩;go_simp;with_reducible rfl)
          refine pureA 2 (some 60) HT_.out ?_
          refine pureA 4 (some 62) HT_.out ?_
          refine pureA 5 (some 63) HT_.out ?_
          refine pureA 6 (some 64) HT_.out ?_
          refine pureA 7 (some 65) HT_.out ?_
          refine pureA 8 (some 66) HT_.out ?_
          refine pureU 9 (some 67) HT_.out ?_
          refine pureU 10 (some 68) HT_.out ?_
          refine pureU 11 (some 69) HT_.out ?_
          refine pureU 12 (some 70) HT_.out ?_
          refine pureU 13 (some 71) HT_.out ?_
          refine pureU 14 (some 72) HT_.out ?_
          refine pureU 15 (some 73) HT_.out ?_
          refine pureU 16 (some 74) HT_.out ?_
          refine pureU 17 (some 75) HT_.out ?_
          refine pureU 18 (some 76) HT_.out ?_
          refine pureA 19 (some 77) HT_.out ?_
          refine pureA 20 (some 78) HT_.out ?_
          refine pureA 21 (some 2) HT_.out ?_
          refine done_ (done_of HT_.out (by kernel_rfl)) ?_
          try go_wp2
          go_ret
          exact ⟨eqs,puM HB.out GE468.out⟩
         ·rw [if_neg c35] at H
          have c35b0 : ((t472.length : Int) == 0) = false:=beq_eq_false_iff_ne.mpr c35
          have c35b1 : ((t472.length : Int) != 0) = true:=bne_iff_ne.mpr c35
          have c35b2 : ¬ (t472 = []):=fun h_=>c35 (by rw [h_];rfl)
          obtain ⟨ji37,hji37⟩ : ∃ j_ : Int,(wrap64 ((t472.length : Int) - 1)) = j_:=⟨_,rfl⟩
          replace H : (if 0 ≤ (ji37) then (if (ji37) ≤ (t465.length : Int) then ((impl_StreamOk.f k2 t464 (t465.take ((ji37) : Int).toNat)).bind fun t482=>(some (!t482))) else (none)) else (none)) = some r:=by first|(rw [hji37] at H;exact H)|(simp only [hji37] at H ⊢;exact H)
          have hji37w : (IntKind.i64.wrap ((t472.length : Int) - 1)) = ji37:=(i64_w _).trans hji37
          by_cases c38 : 0 ≤ (ji37)
          rotate_left
          ·rw [if_neg c38] at H
           exact absurd H (by simp)
          rw [if_pos c38] at H
          have c38b0:=eq_true c38
          have c38b1:=decide_eq_true c38
          clear c38
          by_cases c39 : (ji37) ≤ (t465.length : Int)
          rotate_left
          ·rw [if_neg c39] at H
           exact absurd H (by simp)
          rw [if_pos c39] at H
          have c39b0:=eq_true c39
          have c39b1:=decide_eq_true c39
          clear c39
          obtain ⟨y478,hy478⟩ : ∃ y_ : List (S41),y_ = (t465.take ((ji37) : Int).toNat):=⟨_,rfl⟩
          replace H : ((impl_StreamOk.f k2 t464 y478).bind fun t482=>(some (!t482))) = some r:=by first|(rw [hy478];with_reducible exact H)|(have H2_:=(Option.bind_some _ _).symm.trans H;rw [hy478];with_reducible exact H2_)|(have H2_:=(Option.bind_some _ _).symm.trans H;with_reducible exact H2_)|with_reducible exact H|(rw [hy478];exact H)|exact H
          have Ny478:=m_ hy478
          clear hy478
          replace H:=Option.bind_eq_some_iff.mp H
          obtain ⟨t482,A400,H⟩:=H
          replace H : (some (!t482)) = some r:=H
          have A40:=m_ A400
          clear A400
          obtain rfl:=Option.some.inj H
          try go_wp2
          have n0_:=m_ (Kd.R_drew HO_5.out)
          have n1_:=m_ (Kd.R_drew HO_469001.out)
          have n2_:=m_ (b2_ BK468.out)
          have n3_:=m_ (l3_ HB.out)
          clear HO_5
          clear HO_469001
          clear BK468
          clear HB
          have HO_5:=n0_
          have HO_469001:=n1_
          have BK468:=n2_
          have HB:=n3_
          clear n0_ n1_ n2_ n3_
          have q42 : ((ji37) : Int) ≤ ((t465.length : Int) : Int):=of_decide_eq_true asm
          obtain ⟨i042,hi042,_,hsz42,_⟩:=info_parts info41
          have hroom42 : t465.length ≤ co9:=(Kd.R_reads' HO_469001.out).2.1
          have hC42 : Kd.C k41 _ Ao9 t465.length t465:=(Kd.R_reads' HO_469001.out).2.2
          have hcut42:=cut_to (P:=Tryd.prog) 27 41 .i64 Tryd.underlying27 hi042 Ao9 t465.length co9 (ji37) (of_decide_eq_true asm) q42 hroom42
          have hr42:=Kd.C_take (m:=((ji37) : Int).toNat) hC42 (by omega)
          have hy42 : y478.length = ((ji37) : Int).toNat:=(by rw [Ny478.out,List.length_take];omega)
          rw [← Ny478.out] at hr42
          rw [← hy42] at hcut42
          have HR481:=m_ hr42
          have HC481:=m_ (show y478.length ≤ co9 from by omega)
          clear hr42 hC42 hroom42 hi042 hsz42
          have KY42:=m_ hy42
          clear hy42
          have KL42:=m_ (show ((ji37) : Int).toNat ≤ t465.length from by omega)
          replace q42:=eq_true q42
          refine start_ (n:=22) (S:=fun w'=>w'.cell? ⟨gb468,0,none⟩ = some (.string t464) ∧ w'.cell? ⟨gb468,1,none⟩ = some (.slice Ao9 t465.length co9)) (ds:=[]) #[false,false,false,false,false,false,false,false,false,false,false,false,false,false,false,false,false,false,false,false,false,false] (by kernel_rfl) rfl rfl ⟨(c_ BK468.out 0).trans rfl,(c_ BK468.out 1).trans rfl⟩ (fun hHeld=>?_);refine with_tabW laws_FnStreamOk.tab14 laws_FnStreamOk.bits14 (fun HT_ HW_=>?_)
          generalize wr.drew = w41 at HO_5 HO_469001 BK468 HB HR481 hHeld ⊢
          refine pureA 0 (some 58) HT_.out ?_
          refine pureA 3 (some 61) HT_.out ?_
          refine takeA 1 (some 59) rfl rfl HT_.out HW_.out hHeld ?_ (by rintro w' ⟨s0,s1⟩;go_simp;with_reducible rfl)
          refine pureA 2 (some 60) HT_.out ?_
          refine pureA 4 (some 62) HT_.out ?_
          refine pureA 5 (some 63) HT_.out ?_
          refine pureA 6 (some 64) HT_.out ?_
          refine pureA 7 (some 65) HT_.out ?_
          refine pureA 8 (some 66) HT_.out ?_
          refine pureA 9 (some 67) HT_.out ?_
          refine pureA 11 (some 69) HT_.out ?_
          refine pureA 13 (some 71) HT_.out ?_
          refine pureA 14 (some 72) HT_.out ?_
          refine takeA 10 (some 68) rfl rfl HT_.out HW_.out hHeld ?_ (by rintro w' ⟨s0,s1⟩;go_simp;with_reducible rfl)
          refine takeA 12 (some 70) rfl rfl HT_.out HW_.out hHeld ?_ (by rintro w' ⟨s0,s1⟩;go_simp;with_reducible rfl)
          refine pureA 15 (some 73) HT_.out ?_
          refine pureA 16 (some 74) HT_.out ?_
          refine one_ (i:=17) (N:=some 75) #[true,true,true,true,true,true,true,true,true,true,true,true,true,true,true,true,true,true,false,false,false,false] rfl rfl (one_of HT_.out (by kernel_rfl)) (by decide) (fun K hK=>?_)
          refine goes_ Tryd.func11 (by kernel_rfl) rfl #[.agg #[.string t464,.slice Ao9 y478.length co9]] (by rfl) rfl rfl lens ?_
          with_reducible refine (impl_StreamOk.calls k2 t464 _ _ y478 t482 _ ?side1 ?side2 ?side3 A40.out).mono ?_
          (case side1=>repeat (first|exact (by repeat (first|(with_reducible exact HR481.out)|(with_reducible refine Kd.C_alloc ?_ _)|(with_reducible refine Kd.C_drewN ?_ _)|(with_reducible refine Kd.C_drew ?_)|exact HR481.out))|(with_reducible refine Kd.C_alloc ?_ _)|(with_reducible refine Kd.C_drewN ?_ _)|(with_reducible refine Kd.C_drew ?_)))
          (case side2=>exact HC481.out)
          (case side3=>first|(with_reducible exact HG.out)|exact GV_below HG.out (puM HB.out GE468.out))
          rintro e w43 ⟨rfl,hb⟩
          refine ⟨_,rfl,?_⟩
          have n0_:=m_ (Kd.R_below (puR HO_5.out) hb)
          have n1_:=m_ (Kd.R_below (puR HO_469001.out) hb)
          have n2_:=m_ (blk_below (g:=gb468) (o:=.cells #[.string t464,.slice Ao9 t465.length co9] 29 (0,0)) (puB BK468.out) hb)
          have n3_:=m_ (Kd.C_below (by repeat (first|(with_reducible exact HR481.out)|(with_reducible refine Kd.C_alloc ?_ _)|(with_reducible refine Kd.C_drewN ?_ _)|(with_reducible refine Kd.C_drew ?_)|exact HR481.out)) hb)
          have n4_:=m_ (l5_ (puM HB.out GE468.out) hb)
          clear HO_5
          clear HO_469001
          clear BK468
          clear HR481
          clear HB
          have HO_5:=n0_
          have HO_469001:=n1_
          have BK468:=n2_
          have HR481:=n3_
          have HB:=n4_
          clear n0_ n1_ n2_ n3_ n4_
          (try clear hb)
          (try clear hb2)
          (try clear hk)
          (try clear hi)
          refine hK.out _ _ ⟨(c_ BK468.out 0).trans rfl,(c_ BK468.out 1).trans rfl⟩ (fun hHeld=>?_)
          clear hK K
          refine norm_ (a':=?_) ?_ ?_
          rotate_left
          ·show Act.put _ (some 75) _ = _
           simp only [Act.put,s1_,s2_,s3_,i64_w,i32_w]
           rfl
          refine pureA 18 (some 76) HT_.out ?_
          refine pureA 19 (some 77) HT_.out ?_
          refine pureA 20 (some 78) HT_.out ?_
          refine pureA 21 (some 2) HT_.out ?_
          refine done_ (done_of HT_.out (by kernel_rfl)) ?_
          try go_wp2
          go_ret
          exact ⟨by first|rfl|(simp [e1_,e2_] <;> rfl)|(simp only [← hji37];first|rfl|(simp [e1_,e2_] <;> rfl))|(simp [*,e1_,e2_] <;> rfl)|(simp [e1_,e2_,pk_empty1,pk_empty2];done)|(simp [*,e1_,e2_,pk_empty1,pk_empty2];done),puM HB.out GE468.out⟩
        ·rw [if_neg c34] at H
         have c34b0 : ((t465.length : Int) == (t472.length : Int)) = false:=beq_eq_false_iff_ne.mpr c34
         have c34b1 : ((t465.length : Int) != (t472.length : Int)) = true:=bne_iff_ne.mpr c34
         have c34b2 : (t465.length == t472.length) = false:=by first|simpa using c34|(simp at c34 ⊢;omega)
         obtain rfl:=Option.some.inj H
         try go_wp2
         have n0_:=m_ (Kd.R_drew HO_5.out)
         have n1_:=m_ (Kd.R_drew HO_469001.out)
         have n2_:=m_ (b2_ BK468.out)
         have n3_:=m_ (l3_ HB.out)
         clear HO_5
         clear HO_469001
         clear BK468
         clear HB
         have HO_5:=n0_
         have HO_469001:=n1_
         have BK468:=n2_
         have HB:=n3_
         clear n0_ n1_ n2_ n3_
         refine start_ (n:=22) (S:=fun w'=>w'.cell? ⟨gb468,0,none⟩ = some (.string t464) ∧ w'.cell? ⟨gb468,1,none⟩ = some (.slice Ao9 t465.length co9)) (ds:=[]) #[false,false,false,false,false,false,false,false,false,false,false,false,false,false,false,false,false,false,false,false,false,false] (by kernel_rfl) rfl rfl ⟨(c_ BK468.out 0).trans rfl,(c_ BK468.out 1).trans rfl⟩ (fun hHeld=>?_);refine with_tabW laws_FnStreamOk.tab14 laws_FnStreamOk.bits14 (fun HT_ HW_=>?_)
         generalize wr.drew = w44 at HO_5 HO_469001 BK468 HB hHeld ⊢
         refine pureA 0 (some 58) HT_.out ?_
         refine pureA 3 (some 61) HT_.out ?_
         refine takeA 1 (some 59) rfl rfl HT_.out HW_.out hHeld ?_ (by rintro w' ⟨s0,s1⟩;go_simp;with_reducible rfl)
         refine pureA 2 (some 60) HT_.out ?_
         refine pureA 4 (some 62) HT_.out ?_
         refine pureA 5 (some 63) HT_.out ?_
         refine pureU 6 (some 64) HT_.out ?_
         refine pureU 7 (some 65) HT_.out ?_
         refine pureU 8 (some 66) HT_.out ?_
         refine pureU 9 (some 67) HT_.out ?_
         refine pureU 10 (some 68) HT_.out ?_
         refine pureU 11 (some 69) HT_.out ?_
         refine pureU 12 (some 70) HT_.out ?_
         refine pureU 13 (some 71) HT_.out ?_
         refine pureU 14 (some 72) HT_.out ?_
         refine pureU 15 (some 73) HT_.out ?_
         refine pureU 16 (some 74) HT_.out ?_
         refine pureU 17 (some 75) HT_.out ?_
         refine pureU 18 (some 76) HT_.out ?_
         refine pureU 19 (some 77) HT_.out ?_
         refine pureA 20 (some 78) HT_.out ?_
         refine pureA 21 (some 2) HT_.out ?_
         refine done_ (done_of HT_.out (by kernel_rfl)) ?_
         try go_wp2
         go_ret
         exact ⟨eqs,puM HB.out GE468.out⟩

/-- THE ONE PURE STATEMENT of laws_FnStreamOk: yours. -/
def laws_FnStreamOk.Pure : Prop := ∀ (l0 : List Int), l0.length ≤ maxLen → l0.length * 1 ≤ 140737488351232 → (∀ x ∈ l0, (Lit.int .u8 x).wf = true) → ∃ k, laws_FnStreamOk.f k l0 = some true
theorem laws_FnStreamOk.walk (P : laws_FnStreamOk.Pure) (a0 : Option Addr) (len0 cap0 : Nat) (z0 : List Int) (w : World) (hG : GV w) (w0 : (a0 = none ∧ len0 = 0 ∧ cap0 = 0 ∧ z0 = []) ∨ ∃ x, a0 = some x ∧ len0 ≤ cap0 ∧ cap0 ≤ maxLen ∧ z0.length = cap0 ∧ (∀ i, i < z0.length → w.cell? (x.add i) = some (.int .u8 (z0.getD i 0))) ∧ ∀ n ∈ z0, (Lit.int .u8 n).wf = true) (y0 : len0 * 1 ≤ 140737488351232) :
  Calls Tryd.prog 7 #[.slice a0 len0 cap0] w fun e w'=>e = .returned (.bool true) ∧ Below w.heap.size w w':=by
 obtain ⟨l0,rfl,hr0,hm0,hw0,hc0⟩:=ReadsInt.ofRowC w0
 obtain ⟨k,h⟩:=P l0 hm0 y0 hw0
 refine (laws_FnStreamOk.calls k _ _ l0 true w (Kd.C_of_reads (d:=(0 : Int)) (h1:=fun _=>rfl) hr0) hc0 hG h).mono ?_
 rintro e w' ⟨rfl,hd⟩
 exact ⟨rfl,hd⟩

end Go.Proofs.YtkcjmmhleepjeaaDoor.A
