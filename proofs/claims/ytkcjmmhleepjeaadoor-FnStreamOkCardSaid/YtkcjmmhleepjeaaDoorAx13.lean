-- Printed by myprint.py (wip/tools) out of the translation. Not trusted: Lean checks it.
import Derived.Test.YtkcjmmhleepjeaaDoorAx0
import Derived.Test.YtkcjmmhleepjeaaDoorAx4
import Derived.Test.YtkcjmmhleepjeaaDoorAx11
import Derived.Test.YtkcjmmhleepjeaaDoorAx12
namespace Go.Proofs.YtkcjmmhleepjeaaDoor.A
open Go.RowKit Go.Proofs.YtkcjmmhleepjeaaDoorW.PrintWords Go.Proofs.YtkcjmmhleepjeaaDoorW.PrintLast Go.Proofs.YtkcjmmhleepjeaaDoorW.PrintMore
attribute [local go_sem] max2_int min2_int max_two min_two max_three min_three max_four min_four
set_option linter.unusedVariables false
set_option linter.unusedSimpArgs false

/-! ### spec_l11Put: function 55 -/
mutual
def spec_l11Put.j0 : Nat → List (S98) → Int → ByteArray → Bool → Int → Bool → ByteArray → List (S41) → Option ((List (S98)) × ByteArray × (List (S41)) × Bool)
 | 0, _, _, _, _, _, _, _, _ => none
 | k + 1, x0, x2, x3, x4, x13, x33, x372000, x372001 => if x33 = true then (some (x0, x372000, x372001, false)) else (if (wrap64 (x2 + (x3.size : Int))) ≤ x13 then (some (x0, x372000, x372001, true)) else (if 0 ≤ (wrap64 (x13 - x2)) then (if (wrap64 (x13 - x2)) ≤ (x3.size : Int) then (if x372000.size + (x3.size - ((wrap64 (x13 - x2)) : Int).toNat) ≤ 9223372036854775807 then ((spec_l11Done.f k x372000 x372001).bind fun t373 => ((spec_l2Pieces.f k (x372000 ++ (x3.extract ((wrap64 (x13 - x2)) : Int).toNat x3.size))).bind fun t374 => ((some (([] : List (S41)) : List (S41))).bind fun y377 => (if y377.length + x372001.length < 5864062014805 then (spec_l11Put.l0 k x0 x4 (x372000 ++ (x3.extract ((wrap64 (x13 - x2)) : Int).toNat x3.size)) t373 t374 (x372001.length : Int) (x372000 ++ (x3.extract ((wrap64 (x13 - x2)) : Int).toNat x3.size)) (y377 ++ x372001)) else (none))))) else (none)) else (none)) else (none)))
def spec_l11Put.l0 : Nat → List (S98) → Bool → ByteArray → Int → List (S45) → Int → ByteArray → List (S41) → Option ((List (S98)) × ByteArray × (List (S41)) × Bool)
 | 0, _, _, _, _, _, _, _, _ => none
 | k + 1, x0, x4, x14, x15, x16, x18, x384000, x384001 => if x18 < (x16.length : Int) then (if 0 ≤ x18 then (if 0 ≤ x15 then (if x15 ≤ (wrap64 (x15 + ((rd_T45 x16 x18).f0))) then (if (wrap64 (x15 + ((rd_T45 x16 x18).f0))) ≤ (x14.size : Int) then (if x4 = true then ((spec_l3PieceOut.f k x0 ((rd_T45 x16 x18).f0) ((rd_T45 x16 x18).f1) ((rd_T45 x16 x18).f2.f0) ((rd_T45 x16 x18).f2.f1) (x14.extract (x15 : Int).toNat ((wrap64 (x15 + ((rd_T45 x16 x18).f0))) : Int).toNat)).bind fun bt386 => (if x384001.length < 5864062014805 then (spec_l11Put.l0 k bt386.1 x4 x14 (wrap64 (x15 + ((rd_T45 x16 x18).f0))) x16 (wrap64 (x18 + 1)) x384000 (x384001 ++ [(⟨(rd_T45 x16 x18).f0, bt386.2⟩ : S41)])) else (none))) else ((spec_l3PieceIn.f k x0 ((rd_T45 x16 x18).f0) ((rd_T45 x16 x18).f1) ((rd_T45 x16 x18).f2.f0) ((rd_T45 x16 x18).f2.f1) (x14.extract (x15 : Int).toNat ((wrap64 (x15 + ((rd_T45 x16 x18).f0))) : Int).toNat)).bind fun t396 => (if x384001.length < 5864062014805 then (spec_l11Put.l0 k x0 x4 x14 (wrap64 (x15 + ((rd_T45 x16 x18).f0))) x16 (wrap64 (x18 + 1)) x384000 (x384001 ++ [(⟨(rd_T45 x16 x18).f0, t396⟩ : S41)])) else (none)))) else (none)) else (none)) else (none)) else (none)) else (some (x0, x384000, x384001, true))
end
def spec_l11Put.f (k : Nat) (l0 : List (S98)) (a1_0 : ByteArray) (l1_1 : List (S41)) (a2 : Int) (a3 : ByteArray) (a4 : Bool) : Option ((List (S98)) × ByteArray × (List (S41)) × Bool) := if a2 > (a1_0.size : Int) then (spec_l11Put.j0 k l0 a2 a3 a4 (a1_0.size : Int) true a1_0 l1_1) else (spec_l11Put.j0 k l0 a2 a3 a4 (a1_0.size : Int) (decide ((wrap64 (a2 + (a3.size : Int))) > 40)) a1_0 l1_1)
theorem spec_l11Put.mono_l : ∀ k, (∀ y0 y1 y2 y3 y4 y5 y6 y7, LeO (spec_l11Put.j0 k y0 y1 y2 y3 y4 y5 y6 y7) (spec_l11Put.j0 (k + 1) y0 y1 y2 y3 y4 y5 y6 y7)) ∧ (∀ y0 y1 y2 y3 y4 y5 y6 y7, LeO (spec_l11Put.l0 k y0 y1 y2 y3 y4 y5 y6 y7) (spec_l11Put.l0 (k + 1) y0 y1 y2 y3 y4 y5 y6 y7))
 | 0 => ⟨fun _ _ _ _ _ _ _ _ r h => by simp [spec_l11Put.j0] at h, fun _ _ _ _ _ _ _ _ r h => by simp [spec_l11Put.l0] at h⟩
 | k + 1 => by
  obtain ⟨ih0,ih1⟩:=spec_l11Put.mono_l k
  refine ⟨?_,?_⟩
  ·intro y0 y1 y2 y3 y4 y5 y6 y7
   unfold spec_l11Put.j0
   repeat' first
   | (with_reducible exact ih0 _ _ _ _ _ _ _ _)
   | (with_reducible exact ih1 _ _ _ _ _ _ _ _)
   | (with_reducible exact spec_l11Done.mono _ _ _)
   | (with_reducible exact spec_l2Pieces.mono _ _)
   | (with_reducible exact spec_l3PieceIn.mono _ _ _ _ _ _ _)
   | (with_reducible exact spec_l3PieceOut.mono _ _ _ _ _ _ _)
   | (with_reducible exact LeO.refl _)
   | (with_reducible exact LeO.none _)
   | (with_reducible refine LeO.ite ?_ ?_)
   | (with_reducible refine LeO.bind ?_ (fun _ => ?_))
   | exact ih0 _ _ _ _ _ _ _ _
   | exact ih1 _ _ _ _ _ _ _ _
   | exact spec_l11Done.mono _ _ _
   | exact spec_l2Pieces.mono _ _
   | exact spec_l3PieceIn.mono _ _ _ _ _ _ _
   | exact spec_l3PieceOut.mono _ _ _ _ _ _ _
   | exact LeO.none _
   | refine LeO.ite ?_ ?_
   | refine LeO.bind ?_ (fun _ => ?_)
  ·intro y0 y1 y2 y3 y4 y5 y6 y7
   unfold spec_l11Put.l0
   repeat' first
   | (with_reducible exact ih0 _ _ _ _ _ _ _ _)
   | (with_reducible exact ih1 _ _ _ _ _ _ _ _)
   | (with_reducible exact spec_l11Done.mono _ _ _)
   | (with_reducible exact spec_l2Pieces.mono _ _)
   | (with_reducible exact spec_l3PieceIn.mono _ _ _ _ _ _ _)
   | (with_reducible exact spec_l3PieceOut.mono _ _ _ _ _ _ _)
   | (with_reducible exact LeO.refl _)
   | (with_reducible exact LeO.none _)
   | (with_reducible refine LeO.ite ?_ ?_)
   | (with_reducible refine LeO.bind ?_ (fun _ => ?_))
   | exact ih0 _ _ _ _ _ _ _ _
   | exact ih1 _ _ _ _ _ _ _ _
   | exact spec_l11Done.mono _ _ _
   | exact spec_l2Pieces.mono _ _
   | exact spec_l3PieceIn.mono _ _ _ _ _ _ _
   | exact spec_l3PieceOut.mono _ _ _ _ _ _ _
   | exact LeO.none _
   | refine LeO.ite ?_ ?_
   | refine LeO.bind ?_ (fun _ => ?_)
theorem spec_l11Put.mono : ∀ a0 a1 a2 a3 a4 a5 k, LeO (spec_l11Put.f k a0 a1 a2 a3 a4 a5) (spec_l11Put.f (k + 1) a0 a1 a2 a3 a4 a5) := by
 intro a0 a1 a2 a3 a4 a5 k
 obtain ⟨ih0,ih1⟩:=spec_l11Put.mono_l k
 unfold spec_l11Put.f
 repeat' first
   | (with_reducible exact ih0 _ _ _ _ _ _ _ _)
   | (with_reducible exact ih1 _ _ _ _ _ _ _ _)
   | (with_reducible exact spec_l11Done.mono _ _ _)
   | (with_reducible exact spec_l2Pieces.mono _ _)
   | (with_reducible exact spec_l3PieceIn.mono _ _ _ _ _ _ _)
   | (with_reducible exact spec_l3PieceOut.mono _ _ _ _ _ _ _)
   | (with_reducible exact LeO.refl _)
   | (with_reducible exact LeO.none _)
   | (with_reducible refine LeO.ite ?_ ?_)
   | (with_reducible refine LeO.bind ?_ (fun _ => ?_))
   | exact ih0 _ _ _ _ _ _ _ _
   | exact ih1 _ _ _ _ _ _ _ _
   | exact spec_l11Done.mono _ _ _
   | exact spec_l2Pieces.mono _ _
   | exact spec_l3PieceIn.mono _ _ _ _ _ _ _
   | exact spec_l3PieceOut.mono _ _ _ _ _ _ _
   | exact LeO.none _
   | refine LeO.ite ?_ ?_
   | refine LeO.bind ?_ (fun _ => ?_)
def spec_l11Put.T6 : Bool × List (List Nat × List Nat) := (true, [([], []), ([0], [0]), ([], []), ([], []), ([], []), ([3, 4], [3, 4]), ([2, 5], [2, 5]), ([1, 6], [1, 6]), ([7, 0, 1, 2, 3, 4, 5, 6, 7], [7])])
def spec_l11Put.B6 : List Nat := [0, 1, 0, 0, 0, 24, 60, 127, 255]
theorem spec_l11Put.tab6 : rtab .any (opsOf Tryd.f55 6) = spec_l11Put.T6 := by kernel_rfl
theorem spec_l11Put.bits6 : waitsOk spec_l11Put.T6.2 spec_l11Put.B6 = true := by kernel_rfl
def spec_l11Put.T18 : Bool × List (List Nat × List Nat) := (true, [([], []), ([0], [0]), ([], []), ([], []), ([2, 3], [2, 3]), ([4], [4]), ([5], [5]), ([], []), ([6, 7], [6, 7]), ([8], [8]), ([1, 9], [1, 9]), ([0, 1, 2, 3, 4, 5, 6, 7, 8, 9, 10], []), ([11, 10, 10, 0, 1, 2, 3, 4, 5, 6, 7, 8, 9, 10], [10, 11])])
def spec_l11Put.B18 : List Nat := [0, 1, 0, 0, 12, 28, 60, 0, 252, 508, 1023, 2047, 4095]
theorem spec_l11Put.tab18 : rtab .any (opsOf Tryd.f55 18) = spec_l11Put.T18 := by kernel_rfl
theorem spec_l11Put.bits18 : waitsOk spec_l11Put.T18.2 spec_l11Put.B18 = true := by kernel_rfl
set_option maxHeartbeats 8000000 in
set_option maxRecDepth 100000 in
theorem spec_l11Put.calls (k : Nat) (P0_ : Nat → Prop) (u9000_ : Value) (l0 : List (S98)) (a1_0 : ByteArray) (P1_1_ : Nat → Prop) (u9001_ : Value) (l1_1 : List (S41)) (a2 : Int) (a3 : ByteArray) (a4 : Bool) (r1 : List (S98)) (r2 : ByteArray) (r3 : List (S41)) (r4 : Bool) (w0 w : World) (hB : Below w0.heap.size w0 w) (ho0 : Kd.Q k98 98 w w0.heap.size P0_ u9000_ l0) (ho1_1 : Kd.R k41 41 w w0.heap.size P1_1_ u9001_ l1_1) (h : spec_l11Put.f k l0 a1_0 l1_1 a2 a3 a4 = some (r1, r2, r3, r4)) :
  Calls Tryd.prog 55 #[u9000_,.agg #[.string a1_0,u9001_],.int .i64 a2,.string a3,.bool a4] w fun e w'=>∃ v0_ v2_ : Value,e = .returned (.tuple #[v0_,.agg #[.string r2,v2_],.bool r4]) ∧ Kd.Q k98 98 w' w0.heap.size (fun k_=>((P0_ k_ ∨ P1_1_ k_) ∨ w.heap.size ≤ k_)) v0_ r1 ∧ Kd.R k41 41 w' w0.heap.size (fun k_=>((P0_ k_ ∨ P1_1_ k_) ∨ w.heap.size ≤ k_)) v2_ r3 ∧ Below w0.heap.size w0 w' ∧ Kept w w' (fun k_=>P0_ k_ ∨ P1_1_ k_):=by
 have hu29:=Tryd.underlying29
 have hu45:=Tryd.underlying45
 have hu41:=Tryd.underlying41
 have HO0:=m_ (show Kd.Q k98 98 w w0.heap.size (fun k_=>((P0_ k_ ∨ P1_1_ k_) ∨ w.heap.size ≤ k_)) u9000_ l0 from Kd.Q_mono ho0 (fun k_ hk=>(.inl (.inl hk))))
 have HO1_1:=m_ (show Kd.R k41 41 w w0.heap.size (fun k_=>((P0_ k_ ∨ P1_1_ k_) ∨ w.heap.size ≤ k_)) u9001_ l1_1 from Kd.R_mono ho1_1 (fun k_ hk=>(.inl (.inr hk))))
 have HK:=m_ (Kept.refl w (fun k_=>P0_ k_ ∨ P1_1_ k_))
 have HW0:=m_ hB.size
 have HB:=m_ hB
 clear hB
 have H : (if a2 > (a1_0.size : Int) then (spec_l11Put.j0 k l0 a2 a3 a4 (a1_0.size : Int) true a1_0 l1_1) else (spec_l11Put.j0 k l0 a2 a3 a4 (a1_0.size : Int) (decide ((wrap64 (a2 + (a3.size : Int))) > 40)) a1_0 l1_1)) = some (r1,r2,r3,r4):=h
 clear h
 have HC6:=m_ H
 clear H
 obtain ⟨Ao7,co7,eo7⟩:=Kd.R_slice HO1_1.out
 subst eo7
 go_enter Tryd.func55,Tryd.ntmps55
 go_upto_region 2 with (first|((with_reducible refine gate_dst (N:=6) rfl ?_);(try (refine gate_guard (by rfl) ?_;dsimp only));refine box_event ?hg (N:=6) ?hd (cs:=#[.string a1_0,.slice Ao7 l1_1.length co7]) (t:=29) ?hr ?_;(case hd=>rfl);(case hg=>rfl);(case hr=>first|(go_simp;done)|(go_simp;rfl));intro gb371 hg w8 hbox hb;have n0_:=m_ (Kd.Q_below (puQ HO0.out) hb);have n1_:=m_ (Kd.R_below (puR HO1_1.out) hb);have n2_:=m_ (Kept.below (S:=(fun k_=>P0_ k_ ∨ P1_1_ k_)) (by repeat (first|(with_reducible first|exact HK.out|apply Kept.alloc|apply Kept.drewN|apply Kept.drew)|exact HK.out)) hb);have n3_:=m_ (l5_ (puL HB.out) hb);have n4_:=m_ (hbox);have n5_:=m_ ((by rw [hg];exact (by first|exact HK.out.1|exact (show Kept w _ (fun k_=>P0_ k_ ∨ P1_1_ k_) from by repeat (first|(with_reducible first|exact HK.out|apply Kept.alloc|apply Kept.drewN|apply Kept.drew)|exact HK.out)).1) : w.heap.size ≤ gb371));have n6_:=m_ ((by rw [hg];exact (l6_ (puL HB.out)) : w0.heap.size ≤ gb371));revert n0_ n1_ n2_ n3_ n4_ n5_ n6_;clear HO0 HO1_1 HK HB;intro HO0 HO1_1 HK HB BK371 GW371 GE371;clear hb hbox hg)|((with_reducible refine gate_dst (N:=11) rfl ?_);(try (refine gate_guard (by rfl) ?_;dsimp only));refine box_event ?hg (N:=11) ?hd (cs:=#[.string (⟨#[]⟩ : ByteArray),.slice none 0 0]) (t:=29) ?hr ?_;(case hd=>rfl);(case hg=>rfl);(case hr=>first|(go_simp;done)|(go_simp;rfl));intro gb372 hg w9 hbox hb;have n0_:=m_ (Kd.Q_below (puQ HO0.out) hb);have n1_:=m_ (Kd.R_below (puR HO1_1.out) hb);have n2_:=m_ (blk_below (g:=gb371) (o:=.cells #[.string a1_0,.slice Ao7 l1_1.length co7] 29 (0,0)) (puB BK371.out) hb);have n3_:=m_ (Kept.below (S:=(fun k_=>P0_ k_ ∨ P1_1_ k_)) (by repeat (first|(with_reducible first|exact HK.out|apply Kept.alloc|apply Kept.drewN|apply Kept.drew|refine Kept.setCell ?_ (.inr GW371.out) _)|exact HK.out)) hb);have n4_:=m_ (l5_ (puM HB.out GE371.out) hb);have n5_:=m_ (hbox);have n6_:=m_ ((by rw [hg];exact (by first|exact HK.out.1|exact (show Kept w _ (fun k_=>P0_ k_ ∨ P1_1_ k_) from by repeat (first|(with_reducible first|exact HK.out|apply Kept.alloc|apply Kept.drewN|apply Kept.drew|refine Kept.setCell ?_ (.inr GW371.out) _)|exact HK.out)).1) : w.heap.size ≤ gb372));have n7_:=m_ ((by rw [hg];exact (l6_ (puM HB.out GE371.out)) : w0.heap.size ≤ gb372));have n8_:=m_ ((by rw [hg];exact Nat.ne_of_lt (blk_lt (g:=gb371) (o:=.cells #[.string a1_0,.slice Ao7 l1_1.length co7] 29 (0,0)) (puB BK371.out)) : gb371 ≠ gb372));have n9_:=m_ n8_.out.symm;revert n0_ n1_ n2_ n3_ n4_ n5_ n6_ n7_ n8_ n9_;clear HO0 HO1_1 BK371 HK HB;intro HO0 HO1_1 BK371 HK HB BK372 GW372 GE372 NB371_372 NB372_371;clear hb hbox hg;have hnb10:=NB371_372.out;have hnc10:=NB372_371.out;have hcz11_0 : w9.cell? ⟨gb371,0,none⟩ = some (.string a1_0):=(c_ BK371.out 0).trans rfl;have hcz11_1 : w9.cell? ⟨gb371,1,none⟩ = some (.slice Ao7 l1_1.length co7):=(c_ BK371.out 1).trans rfl;have hfz11_0:=f_ BK371.out 0;have hfz11_1:=f_ BK371.out 1))
 (try simp only [Act.put,s1_,s2_,s3_])
 go_cut [33] (fun v33 wc=>∃ (kq : Nat) (x33_5 : Bool),v33 = .bool x33_5 ∧ Aside0 (spec_l11Put.j0 kq l0 a2 a3 a4 (a1_0.size : Int) x33_5 a1_0 l1_1 = some (r1,r2,r3,r4)) ∧ Aside0 (kq ≤ k) ∧ Aside0 (Kd.Q k98 98 wc w0.heap.size (fun k_=>((P0_ k_ ∨ P1_1_ k_) ∨ w.heap.size ≤ k_)) u9000_ l0) ∧ Aside0 (Kd.R k41 41 wc w0.heap.size (fun k_=>((P0_ k_ ∨ P1_1_ k_) ∨ w.heap.size ≤ k_)) (.slice Ao7 l1_1.length co7) l1_1) ∧ Aside0 (wc.heap[gb371]? = some (.cells #[.string a1_0,(.slice Ao7 l1_1.length co7)] 29 (0,0))) ∧ Aside0 (wc.heap[gb372]? = some (.cells #[.string (⟨#[]⟩ : ByteArray),(.slice none 0 0)] 29 (0,0))) ∧ Aside0 (Kept w wc (fun k_=>P0_ k_ ∨ P1_1_ k_)) ∧ Aside0 (Below w0.heap.size w0 wc))
 case first =>
  have H:=HC6.out
  clear HC6
  by_cases c12 : a2 > (a1_0.size : Int)
  ·rw [if_pos c12] at H
   have c12b0 : decide ((a1_0.size : Int) < a2) = true:=decide_eq_true c12
   clear c12
   (first|rw [c12b0]|(simp only [i64_w,i32_w];rw [c12b0])|skip)
   have H':=m_ H
   clear H
   go_wp2
   go_meet
   case rel=>exact ⟨_,(true),(by first|rfl|(simp;done)|(simp [*];done)),H',⟨by first|omega|exact Nat.le_refl _⟩,⟨by (with_reducible repeat (first|apply Kd.Q_alloc|apply Kd.Q_drewN|apply Kd.Q_drew));exact HO0.out⟩,⟨by (with_reducible repeat (first|apply Kd.R_alloc|apply Kd.R_drewN|apply Kd.R_drew));exact HO1_1.out⟩,⟨by (with_reducible repeat first|apply b1_|apply b2_|apply b3_);exact BK371.out⟩,⟨by (with_reducible repeat first|apply b1_|apply b2_|apply b3_);exact BK372.out⟩,⟨by repeat (first|(with_reducible first|exact HK.out|apply Kept.alloc|apply Kept.drewN|apply Kept.drew|refine Kept.setCell ?_ (.inr GW371.out) _|refine Kept.setCell ?_ (.inr GW372.out) _)|exact HK.out)⟩,⟨puN HB.out GE371.out GE372.out⟩⟩
  ·rw [if_neg c12] at H
   have c12b0 : decide ((a1_0.size : Int) < a2) = false:=decide_eq_false c12
   clear c12
   (first|rw [c12b0]|(simp only [i64_w,i32_w];rw [c12b0])|skip)
   have H':=m_ H
   clear H
   go_wp2
   go_meet
   case rel=>exact ⟨_,(decide ((wrap64 (a2 + (a3.size : Int))) > 40)),(by first|rfl|(simp;done)|(simp [*];done)),H',⟨by first|omega|exact Nat.le_refl _⟩,⟨by (with_reducible repeat (first|apply Kd.Q_alloc|apply Kd.Q_drewN|apply Kd.Q_drew));exact HO0.out⟩,⟨by (with_reducible repeat (first|apply Kd.R_alloc|apply Kd.R_drewN|apply Kd.R_drew));exact HO1_1.out⟩,⟨by (with_reducible repeat first|apply b1_|apply b2_|apply b3_);exact BK371.out⟩,⟨by (with_reducible repeat first|apply b1_|apply b2_|apply b3_);exact BK372.out⟩,⟨by repeat (first|(with_reducible first|exact HK.out|apply Kept.alloc|apply Kept.drewN|apply Kept.drew|refine Kept.setCell ?_ (.inr GW371.out) _|refine Kept.setCell ?_ (.inr GW372.out) _)|exact HK.out)⟩,⟨puN HB.out GE371.out GE372.out⟩⟩
 case rest =>
  clear HC6
  try clear c1
  try clear p2
  try clear c5
  try clear p6
  try clear c10
  try clear c12
  try clear c12b0
  try clear hcz11_0
  try clear hcz11_1
  try clear hfz11_0
  try clear hfz11_1
  obtain ⟨kq,x33_5,rfl,HA,HJ5,HO_0,HO_372001,BK371,BK372,HK,HB⟩:=hcut
  cases kq with
  | zero => exact absurd HA.out (by simp [spec_l11Put.j0])
  | succ kj5 =>
   have H:=HA.out
   clear HA
   simp only [spec_l11Put.j0] at H
   by_cases c13 : x33_5 = true
   ·subst c13
    have H1 : (some (l0,a1_0,l1_1,false)) = some (r1,r2,r3,r4):=by rw [if_pos rfl] at H;exact H
    clear H
    have H:=H1
    clear H1
    simp only [Option.some.injEq,Prod.mk.injEq] at H
    obtain ⟨rfl,rfl,rfl,rfl⟩:=H
    try go_wp2
    have n0_:=m_ (Kd.Q_drew HO_0.out)
    have n1_:=m_ (Kd.R_drew HO_372001.out)
    have n2_:=m_ (b2_ BK371.out)
    have n3_:=m_ (b2_ BK372.out)
    have n4_:=m_ (Kept.drew HK.out)
    have n5_:=m_ (l3_ HB.out)
    clear HO_0
    clear HO_372001
    clear BK371
    clear BK372
    clear HK
    clear HB
    have HO_0:=n0_
    have HO_372001:=n1_
    have BK371:=n2_
    have BK372:=n3_
    have HK:=n4_
    have HB:=n5_
    clear n0_ n1_ n2_ n3_ n4_ n5_
    refine start_ (n:=5) (S:=fun w'=>w'.cell? ⟨gb371,0,none⟩ = some (.string a1_0) ∧ w'.cell? ⟨gb371,1,none⟩ = some (.slice Ao7 l1_1.length co7)) (ds:=[]) #[false,false,false,false,false] (by kernel_rfl) rfl rfl ⟨(c_ BK371.out 0).trans rfl,(c_ BK371.out 1).trans rfl⟩ (fun hHeld=>?_)
    generalize wc.drew = w14 at HO_0 HO_372001 BK371 BK372 HK HB hHeld ⊢
    refine pureK 0 (some 34) ?_
    refine pureK 2 (some 10) ?_
    refine take_ (i:=1) (N:=some 35) (v:=?_) (a':=?_) #[true,true,true,false,false] rfl rfl (by kernel_rfl) (fun _ _ _ h=>h) (Or.inl ⟨by rfl,?_⟩) hHeld ?_ ?_
    rotate_left
    ·rintro w' ⟨s0,s1⟩
     go_simp
     with_reducible rfl
    rotate_left
    ·simp only [Act.put,s1_,s2_,s3_,i64_w,i32_w]
     rfl
    refine one_ (i:=3) (N:=none) #[true,true,true,true,false] rfl rfl (by kernel_rfl) (by decide) (fun K hK=>?_)
    have hs15 : w14.cell? ⟨gb372,0,none⟩ = some (.string (⟨#[]⟩ : ByteArray)):=(c_ BK372.out 0).trans rfl
    have hfs15:=f_ BK372.out 0
    have hns15_0:=NB371_372.out
    have hms15_0:=NB372_371.out
    have hs16 : w14.cell? ⟨gb372,1,none⟩ = some (.slice none 0 0):=(c_ BK372.out 1).trans rfl
    have hfs16:=f_ BK372.out 1
    have hns16_0:=NB371_372.out
    have hms16_0:=NB372_371.out
    refine skip_ (w1:=?_) (by rfl) rfl ?_ ?_
    rotate_left
    ·go_simp
     rfl
    refine hK.out _ _ ⟨((cell_far (p:=⟨gb372,_,none⟩) NB371_372.out _).trans (((cell_far (p:=⟨gb372,_,none⟩) NB371_372.out _).trans (hHeld.1)))),((cell_far (p:=⟨gb372,_,none⟩) NB371_372.out _).trans (((cell_far (p:=⟨gb372,_,none⟩) NB371_372.out _).trans (hHeld.2))))⟩ (fun hHeld=>?_)
    clear hK K
    refine pureK 4 (some 12) ?_
    refine done_ (by kernel_rfl) ?_
    try go_wp2
    refine bodyPost_ret (results_list (rs:=[.tmp 10,.cell 11 29,.tmp 12]) rfl (by simp) (.tmp (.cell gb372 29 #[.string a1_0,.slice Ao7 l1_1.length co7] (0,0) _ rfl (by (with_reducible repeat first|apply b1_|apply b2_|apply b3_);refine blk_put (cs:=#[.string a1_0,.slice none 0 0]) ?_ 1 _ rfl;(with_reducible repeat first|apply b1_|apply b2_|apply b3_);refine blk_put (cs:=#[.string (⟨#[]⟩ : ByteArray),.slice none 0 0]) ?_ 0 _ rfl;(with_reducible repeat first|apply b1_|apply b2_|apply b3_);exact BK372.out) Tryd.underlying29 rfl (by kernel_rfl) (.tmp .nil)))) rfl ?_
    exact ⟨_,_,eqs,by (with_reducible repeat (first|apply Kd.Q_alloc|apply Kd.Q_drewN|apply Kd.Q_drew));exact Kd.Q_mono (Kd.Q_far (p:=⟨gb372,1,none⟩) (Kd.Q_far (p:=⟨gb372,0,none⟩) (Kd.Q_types HO_0.out BK372.out (by decide)) (fun _ hk=>hk.2) (.string a1_0)) (fun _ hk=>hk.2) (.slice Ao7 l1_1.length co7)) (fun _ hk=>hk.1),by (with_reducible repeat (first|apply Kd.R_alloc|apply Kd.R_drewN|apply Kd.R_drew));exact Kd.R_mono (Kd.R_far (p:=⟨gb372,1,none⟩) (Kd.R_far (p:=⟨gb372,0,none⟩) (Kd.R_types HO_372001.out BK372.out (by decide)) (fun _ hk=>hk.2) (.string a1_0)) (fun _ hk=>hk.2) (.slice Ao7 l1_1.length co7)) (fun _ hk=>hk.1),puN HB.out GE371.out GE372.out,by repeat (first|(with_reducible first|exact HK.out|apply Kept.alloc|apply Kept.drewN|apply Kept.drew|refine Kept.setCell ?_ (.inr GW371.out) _|refine Kept.setCell ?_ (.inr GW372.out) _)|exact HK.out)⟩
   ·replace c13:=Bool.eq_false_iff.mpr c13
    subst c13
    have H1 : (if (wrap64 (a2 + (a3.size : Int))) ≤ (a1_0.size : Int) then (some (l0,a1_0,l1_1,true)) else (if 0 ≤ (wrap64 ((a1_0.size : Int) - a2)) then (if (wrap64 ((a1_0.size : Int) - a2)) ≤ (a3.size : Int) then (if a1_0.size + (a3.size - ((wrap64 ((a1_0.size : Int) - a2)) : Int).toNat) ≤ 9223372036854775807 then ((spec_l11Done.f kj5 a1_0 l1_1).bind fun t373=>((spec_l2Pieces.f kj5 (a1_0 ++ (a3.extract ((wrap64 ((a1_0.size : Int) - a2)) : Int).toNat a3.size))).bind fun t374=>((some (([] : List (S41)) : List (S41))).bind fun y377=>(if y377.length + l1_1.length < 5864062014805 then (spec_l11Put.l0 kj5 l0 a4 (a1_0 ++ (a3.extract ((wrap64 ((a1_0.size : Int) - a2)) : Int).toNat a3.size)) t373 t374 (l1_1.length : Int) (a1_0 ++ (a3.extract ((wrap64 ((a1_0.size : Int) - a2)) : Int).toNat a3.size)) (y377 ++ l1_1)) else (none))))) else (none)) else (none)) else (none))) = some (r1,r2,r3,r4):=by rw [if_neg (show ¬ (false = true) by decide)] at H;exact H
    clear H
    have H:=H1
    clear H1
    by_cases c17 : (wrap64 (a2 + (a3.size : Int))) ≤ (a1_0.size : Int)
    ·rw [if_pos c17] at H
     have c17b0 : decide ((wrap64 (a2 + (a3.size : Int))) ≤ (a1_0.size : Int)) = true:=decide_eq_true c17
     clear c17
     simp only [Option.some.injEq,Prod.mk.injEq] at H
     obtain ⟨rfl,rfl,rfl,rfl⟩:=H
     try go_wp2
     have n0_:=m_ (Kd.Q_drew HO_0.out)
     have n1_:=m_ (Kd.R_drew HO_372001.out)
     have n2_:=m_ (b2_ BK371.out)
     have n3_:=m_ (b2_ BK372.out)
     have n4_:=m_ (Kept.drew HK.out)
     have n5_:=m_ (l3_ HB.out)
     clear HO_0
     clear HO_372001
     clear BK371
     clear BK372
     clear HK
     clear HB
     have HO_0:=n0_
     have HO_372001:=n1_
     have BK371:=n2_
     have BK372:=n3_
     have HK:=n4_
     have HB:=n5_
     clear n0_ n1_ n2_ n3_ n4_ n5_
     refine start_ (n:=5) (S:=fun w'=>w'.cell? ⟨gb371,0,none⟩ = some (.string a1_0) ∧ w'.cell? ⟨gb371,1,none⟩ = some (.slice Ao7 l1_1.length co7)) (ds:=[]) #[false,false,false,false,false] (by kernel_rfl) rfl rfl ⟨(c_ BK371.out 0).trans rfl,(c_ BK371.out 1).trans rfl⟩ (fun hHeld=>?_)
     generalize wc.drew = w18 at HO_0 HO_372001 BK371 BK372 HK HB hHeld ⊢
     refine pureK 0 (some 42) ?_
     refine pureK 2 (some 10) ?_
     refine take_ (i:=1) (N:=some 43) (v:=?_) (a':=?_) #[true,true,true,false,false] rfl rfl (by kernel_rfl) (fun _ _ _ h=>h) (Or.inl ⟨by rfl,?_⟩) hHeld ?_ ?_
     rotate_left
     ·rintro w' ⟨s0,s1⟩
      go_simp
      with_reducible rfl
     rotate_left
     ·simp only [Act.put,s1_,s2_,s3_,i64_w,i32_w]
      rfl
     refine one_ (i:=3) (N:=none) #[true,true,true,true,false] rfl rfl (by kernel_rfl) (by decide) (fun K hK=>?_)
     have hs19 : w18.cell? ⟨gb372,0,none⟩ = some (.string (⟨#[]⟩ : ByteArray)):=(c_ BK372.out 0).trans rfl
     have hfs19:=f_ BK372.out 0
     have hns19_0:=NB371_372.out
     have hms19_0:=NB372_371.out
     have hs20 : w18.cell? ⟨gb372,1,none⟩ = some (.slice none 0 0):=(c_ BK372.out 1).trans rfl
     have hfs20:=f_ BK372.out 1
     have hns20_0:=NB371_372.out
     have hms20_0:=NB372_371.out
     refine skip_ (w1:=?_) (by rfl) rfl ?_ ?_
     rotate_left
     ·go_simp
      rfl
     refine hK.out _ _ ⟨((cell_far (p:=⟨gb372,_,none⟩) NB371_372.out _).trans (((cell_far (p:=⟨gb372,_,none⟩) NB371_372.out _).trans (hHeld.1)))),((cell_far (p:=⟨gb372,_,none⟩) NB371_372.out _).trans (((cell_far (p:=⟨gb372,_,none⟩) NB371_372.out _).trans (hHeld.2))))⟩ (fun hHeld=>?_)
     clear hK K
     refine pureK 4 (some 12) ?_
     refine done_ (by kernel_rfl) ?_
     try go_wp2
     refine bodyPost_ret (results_list (rs:=[.tmp 10,.cell 11 29,.tmp 12]) rfl (by simp) (.tmp (.cell gb372 29 #[.string a1_0,.slice Ao7 l1_1.length co7] (0,0) _ rfl (by (with_reducible repeat first|apply b1_|apply b2_|apply b3_);refine blk_put (cs:=#[.string a1_0,.slice none 0 0]) ?_ 1 _ rfl;(with_reducible repeat first|apply b1_|apply b2_|apply b3_);refine blk_put (cs:=#[.string (⟨#[]⟩ : ByteArray),.slice none 0 0]) ?_ 0 _ rfl;(with_reducible repeat first|apply b1_|apply b2_|apply b3_);exact BK372.out) Tryd.underlying29 rfl (by kernel_rfl) (.tmp .nil)))) rfl ?_
     exact ⟨_,_,eqs,by (with_reducible repeat (first|apply Kd.Q_alloc|apply Kd.Q_drewN|apply Kd.Q_drew));exact Kd.Q_mono (Kd.Q_far (p:=⟨gb372,1,none⟩) (Kd.Q_far (p:=⟨gb372,0,none⟩) (Kd.Q_types HO_0.out BK372.out (by decide)) (fun _ hk=>hk.2) (.string a1_0)) (fun _ hk=>hk.2) (.slice Ao7 l1_1.length co7)) (fun _ hk=>hk.1),by (with_reducible repeat (first|apply Kd.R_alloc|apply Kd.R_drewN|apply Kd.R_drew));exact Kd.R_mono (Kd.R_far (p:=⟨gb372,1,none⟩) (Kd.R_far (p:=⟨gb372,0,none⟩) (Kd.R_types HO_372001.out BK372.out (by decide)) (fun _ hk=>hk.2) (.string a1_0)) (fun _ hk=>hk.2) (.slice Ao7 l1_1.length co7)) (fun _ hk=>hk.1),puN HB.out GE371.out GE372.out,by repeat (first|(with_reducible first|exact HK.out|apply Kept.alloc|apply Kept.drewN|apply Kept.drew|refine Kept.setCell ?_ (.inr GW371.out) _|refine Kept.setCell ?_ (.inr GW372.out) _)|exact HK.out)⟩
    ·rw [if_neg c17] at H
     have c17b0 : decide ((wrap64 (a2 + (a3.size : Int))) ≤ (a1_0.size : Int)) = false:=decide_eq_false c17
     clear c17
     obtain ⟨ji21,hji21⟩ : ∃ j_ : Int,(wrap64 ((a1_0.size : Int) - a2)) = j_:=⟨_,rfl⟩
     replace H : (if 0 ≤ (ji21) then (if (ji21) ≤ (a3.size : Int) then (if a1_0.size + (a3.size - ((ji21) : Int).toNat) ≤ 9223372036854775807 then ((spec_l11Done.f kj5 a1_0 l1_1).bind fun t373=>((spec_l2Pieces.f kj5 (a1_0 ++ (a3.extract ((ji21) : Int).toNat a3.size))).bind fun t374=>((some (([] : List (S41)) : List (S41))).bind fun y377=>(if y377.length + l1_1.length < 5864062014805 then (spec_l11Put.l0 kj5 l0 a4 (a1_0 ++ (a3.extract ((ji21) : Int).toNat a3.size)) t373 t374 (l1_1.length : Int) (a1_0 ++ (a3.extract ((ji21) : Int).toNat a3.size)) (y377 ++ l1_1)) else (none))))) else (none)) else (none)) else (none)) = some (r1,r2,r3,r4):=by first|(rw [hji21] at H;exact H)|(simp only [hji21] at H ⊢;exact H)
     have hji21w : (IntKind.i64.wrap ((a1_0.size : Int) - a2)) = ji21:=(i64_w _).trans hji21
     by_cases c22 : 0 ≤ (ji21)
     rotate_left
     ·rw [if_neg c22] at H
      exact absurd H (by simp)
     rw [if_pos c22] at H
     have c22b0:=eq_true c22
     have c22b1:=decide_eq_true c22
     clear c22
     by_cases c23 : (ji21) ≤ (a3.size : Int)
     rotate_left
     ·rw [if_neg c23] at H
      exact absurd H (by simp)
     rw [if_pos c23] at H
     have c23b0:=eq_true c23
     have c23b1:=decide_eq_true c23
     clear c23
     by_cases c24 : a1_0.size + (a3.size - ((ji21) : Int).toNat) ≤ 9223372036854775807
     rotate_left
     ·rw [if_neg c24] at H
      exact absurd H (by simp)
     rw [if_pos c24] at H
     have c24b0:=eq_true c24
     have c24b1:=decide_eq_true c24
     try have c24b2 : (9223372036854775807 < a1_0.size + (a3.size - ((ji21) : Int).toNat)) = False:=eq_false (Nat.not_lt.2 c24)
     clear c24
     replace H:=Option.bind_eq_some_iff.mp H
     obtain ⟨t373,A250,H⟩:=H
     replace H : ((spec_l2Pieces.f kj5 (a1_0 ++ (a3.extract ((ji21) : Int).toNat a3.size))).bind fun t374=>((some (([] : List (S41)) : List (S41))).bind fun y377=>(if y377.length + l1_1.length < 5864062014805 then (spec_l11Put.l0 kj5 l0 a4 (a1_0 ++ (a3.extract ((ji21) : Int).toNat a3.size)) t373 t374 (l1_1.length : Int) (a1_0 ++ (a3.extract ((ji21) : Int).toNat a3.size)) (y377 ++ l1_1)) else (none)))) = some (r1,r2,r3,r4):=H
     have A25:=m_ A250
     clear A250
     replace H:=Option.bind_eq_some_iff.mp H
     obtain ⟨t374,A260,H⟩:=H
     replace H : ((some (([] : List (S41)) : List (S41))).bind fun y377=>(if y377.length + l1_1.length < 5864062014805 then (spec_l11Put.l0 kj5 l0 a4 (a1_0 ++ (a3.extract ((ji21) : Int).toNat a3.size)) t373 t374 (l1_1.length : Int) (a1_0 ++ (a3.extract ((ji21) : Int).toNat a3.size)) (y377 ++ l1_1)) else (none))) = some (r1,r2,r3,r4):=H
     have A26:=m_ A260
     clear A260
     obtain ⟨y377,hy377⟩ : ∃ y_ : List (S41),y_ = (([] : List (S41))):=⟨_,rfl⟩
     replace H : (if y377.length + l1_1.length < 5864062014805 then (spec_l11Put.l0 kj5 l0 a4 (a1_0 ++ (a3.extract ((ji21) : Int).toNat a3.size)) t373 t374 (l1_1.length : Int) (a1_0 ++ (a3.extract ((ji21) : Int).toNat a3.size)) (y377 ++ l1_1)) else (none)) = some (r1,r2,r3,r4):=by first|(rw [hy377];with_reducible exact H)|(have H2_:=(Option.bind_some _ _).symm.trans H;rw [hy377];with_reducible exact H2_)|(have H2_:=(Option.bind_some _ _).symm.trans H;with_reducible exact H2_)|with_reducible exact H|(rw [hy377];exact H)|exact H
     have Ny377:=m_ hy377
     clear hy377
     by_cases c27 : y377.length + l1_1.length < 5864062014805
     rotate_left
     ·rw [if_neg c27] at H
      exact absurd H (by simp)
     rw [if_pos c27] at H
     have LMc27:=m_ c27
     clear c27
     obtain ⟨y380,hy380⟩ : ∃ y_ : List (S41),y_ = (y377 ++ l1_1):=⟨_,rfl⟩
     replace H : (spec_l11Put.l0 kj5 l0 a4 (a1_0 ++ (a3.extract ((ji21) : Int).toNat a3.size)) t373 t374 (l1_1.length : Int) (a1_0 ++ (a3.extract ((ji21) : Int).toNat a3.size)) y380) = some (r1,r2,r3,r4):=by first|(rw [hy380];with_reducible exact H)|(have H2_:=(Option.bind_some _ _).symm.trans H;rw [hy380];with_reducible exact H2_)|(have H2_:=(Option.bind_some _ _).symm.trans H;with_reducible exact H2_)|with_reducible exact H|(rw [hy380];exact H)|exact H
     have Ny380:=m_ hy380
     clear hy380
     have H':=m_ H
     clear H
     try go_wp2
     have n0_:=m_ (Kd.Q_drew HO_0.out)
     have n1_:=m_ (Kd.R_drew HO_372001.out)
     have n2_:=m_ (b2_ BK371.out)
     have n3_:=m_ (b2_ BK372.out)
     have n4_:=m_ (Kept.drew HK.out)
     have n5_:=m_ (l3_ HB.out)
     clear HO_0
     clear HO_372001
     clear BK371
     clear BK372
     clear HK
     clear HB
     have HO_0:=n0_
     have HO_372001:=n1_
     have BK371:=n2_
     have BK372:=n3_
     have HK:=n4_
     have HB:=n5_
     clear n0_ n1_ n2_ n3_ n4_ n5_
     refine start_ (n:=9) (S:=fun w'=>w'.cell? ⟨gb371,0,none⟩ = some (.string a1_0) ∧ w'.cell? ⟨gb371,1,none⟩ = some (.slice Ao7 l1_1.length co7)) (ds:=[]) #[false,false,false,false,false,false,false,false,false] (by kernel_rfl) rfl rfl ⟨(c_ BK371.out 0).trans rfl,(c_ BK371.out 1).trans rfl⟩ (fun hHeld=>?_);refine with_tabW spec_l11Put.tab6 spec_l11Put.bits6 (fun HT_ HW_=>?_)
     generalize wc.drew = w28 at HO_0 HO_372001 BK371 BK372 HK HB hHeld ⊢
     refine pureA 0 (some 44) HT_.out ?_
     refine pureA 2 (some 46) HT_.out ?_
     refine pureA 3 (some 47) HT_.out ?_
     refine pureA 4 (some 48) HT_.out ?_
     refine pureA 5 (some 49) HT_.out ?_
     refine pureA 6 (some 50) HT_.out ?_
     refine takeA 1 (some 45) rfl rfl HT_.out HW_.out hHeld ?_ (by rintro w' ⟨s0,s1⟩;go_simp;with_reducible rfl)
     refine pureA 7 (some 51) HT_.out ?_
     refine pureA 8 (some 14) HT_.out ?_
     refine done_ (done_of HT_.out (by kernel_rfl)) ?_
     have hnb29:=NB371_372.out
     have hnc29:=NB372_371.out
     have hcz30_0 : w28.cell? ⟨gb371,0,none⟩ = some (.string a1_0):=(c_ BK371.out 0).trans rfl
     have hcz30_1 : w28.cell? ⟨gb371,1,none⟩ = some (.slice Ao7 l1_1.length co7):=(c_ BK371.out 1).trans rfl
     have hfz30_0:=f_ BK371.out 0
     have hfz30_1:=f_ BK371.out 1
     try go_wp2_with (first|((with_reducible refine gate_callee (f:=68) rfl ?_);refine goesL_ (some 53) rfl rfl Tryd.func68 (by kernel_rfl) rfl #[.agg #[.string a1_0,.slice Ao7 l1_1.length co7]] rfl lens ?_;(with_reducible refine (spec_l11Done.calls kj5 a1_0 _ _ l1_1 t373 _ ?side1 ?side2 A25.out).mono ?_);(case side1=>repeat (first|exact (Kd.R_reads' HO_372001.out).2.2|(with_reducible refine Kd.C_alloc ?_ _)|(with_reducible refine Kd.C_drewN ?_ _)|(with_reducible refine Kd.C_drew ?_)));(case side2=>exact (Kd.R_reads' HO_372001.out).2.1);rintro e w31 ⟨rfl,hb⟩;refine ⟨_,rfl,?_⟩;have n0_:=m_ (Kd.Q_below (puQ HO_0.out) hb);have n1_:=m_ (Kd.R_below (puR HO_372001.out) hb);have n2_:=m_ (blk_below (g:=gb371) (o:=.cells #[.string a1_0,.slice Ao7 l1_1.length co7] 29 (0,0)) (puB BK371.out) hb);have n3_:=m_ (blk_below (g:=gb372) (o:=.cells #[.string (⟨#[]⟩ : ByteArray),.slice none 0 0] 29 (0,0)) (puB BK372.out) hb);have n4_:=m_ (Kept.below (S:=(fun k_=>P0_ k_ ∨ P1_1_ k_)) (by repeat (first|(with_reducible first|exact HK.out|apply Kept.alloc|apply Kept.drewN|apply Kept.drew|refine Kept.setCell ?_ (.inr GW371.out) _|refine Kept.setCell ?_ (.inr GW372.out) _)|exact HK.out)) hb);have n5_:=m_ (l5_ (puN HB.out GE371.out GE372.out) hb);revert n0_ n1_ n2_ n3_ n4_ n5_;clear HO_0 HO_372001 BK371 BK372 HK HB;intro HO_0 HO_372001 BK371 BK372 HK HB;(try clear hb);(try clear hb2);(try clear hk);(try clear hi))|((with_reducible refine gate_callee (f:=41) rfl ?_);refine goesL_ (some 55) rfl rfl Tryd.func41 (by kernel_rfl) rfl #[.string (a1_0 ++ (a3.extract ((ji21) : Int).toNat a3.size))] rfl (by (try simp only [List.map_toArray,List.map_cons,List.map_nil]);first|done|(simp only [hji21];rfl)|rfl|(simp only [List.length_drop,List.length_take];rfl)) ?_;(with_reducible refine (spec_l2Pieces.calls kj5 (a1_0 ++ (a3.extract ((ji21) : Int).toNat a3.size)) t374 _ A26.out).mono ?_);rintro e w32 ⟨v375,rfl,ho0,hb⟩;refine ⟨_,rfl,?_⟩;have n0_:=m_ (Kd.Q_below (puQ HO_0.out) hb);have n1_:=m_ (Kd.R_below (puR HO_372001.out) hb);have n2_:=m_ (Kd.R_lower (Kd.R_newM (M:=fun k_=>((P0_ k_ ∨ P1_1_ k_) ∨ w.heap.size ≤ k_)) ho0 (by first|exact HK.out.1|exact (show Kept w _ (fun k_=>P0_ k_ ∨ P1_1_ k_) from by repeat (first|(with_reducible first|exact HK.out|apply Kept.alloc|apply Kept.drewN|apply Kept.drew|refine Kept.setCell ?_ (.inr GW371.out) _|refine Kept.setCell ?_ (.inr GW372.out) _)|exact HK.out)).1) (fun k_ h_=>.inr h_)) (l6_ (puN HB.out GE371.out GE372.out)));have n3_:=m_ (blk_below (g:=gb371) (o:=.cells #[.string a1_0,.slice Ao7 l1_1.length co7] 29 (0,0)) (puB BK371.out) hb);have n4_:=m_ (blk_below (g:=gb372) (o:=.cells #[.string (⟨#[]⟩ : ByteArray),.slice none 0 0] 29 (0,0)) (puB BK372.out) hb);have n5_:=m_ (Kept.below (S:=(fun k_=>P0_ k_ ∨ P1_1_ k_)) (by repeat (first|(with_reducible first|exact HK.out|apply Kept.alloc|apply Kept.drewN|apply Kept.drew|refine Kept.setCell ?_ (.inr GW371.out) _|refine Kept.setCell ?_ (.inr GW372.out) _)|exact HK.out)) hb);have n6_:=m_ (l5_ (puN HB.out GE371.out GE372.out) hb);revert n0_ n1_ n2_ n3_ n4_ n5_ n6_;clear HO_0 HO_372001 BK371 BK372 HK HB;intro HO_0 HO_372001 HO376 BK371 BK372 HK HB;(try clear hb);(try clear hb2);(try clear hk);(try clear hi);(try clear ho0))|((with_reducible refine gate_dst (N:=57) rfl ?_);(try (refine gate_guard (by rfl) ?_;dsimp only));refine Kd.R_lit k41 _ 41 ?hg (N:=57) ?hd (xs:=([] : List (S41))) (inner:=[]) (ok:=fun _=>True) (okp:=fun _=>True) ?hr ?hp (fun _ hk=>hk) trivial (Below.refl _ _) (Nat.le_refl _) (by simp) ?_;(case hd=>rfl);(case hg=>rfl);(case hr=>first|(go_simp;done)|(go_simp;rfl));(case hp=>exact (Reps.none _ _));intro v378 w33 ho34 hb hg_ hnew_;clear hg_ hnew_;(first|rw [← Ny377.out] at ho34|(simp only [Int.reduceToNat] at ho34;rw [← Ny377.out] at ho34));have n0_:=m_ (Kd.Q_below (puQ HO_0.out) hb);have n1_:=m_ (Kd.R_elder' (puR HO_372001.out) (Kd.R_base ho34) hb);have n2_:=m_ (Kd.R_below (puR HO376.out) hb);have n3_:=m_ (Kd.R_lower (Kd.R_new' (Kd.R_newM (M:=fun k_=>((P0_ k_ ∨ P1_1_ k_) ∨ w.heap.size ≤ k_)) ho34 (by first|exact HK.out.1|exact (show Kept w _ (fun k_=>P0_ k_ ∨ P1_1_ k_) from by repeat (first|(with_reducible first|exact HK.out|apply Kept.alloc|apply Kept.drewN|apply Kept.drew|refine Kept.setCell ?_ (.inr GW371.out) _|refine Kept.setCell ?_ (.inr GW372.out) _)|exact HK.out)).1) (fun k_ h_=>.inr h_)) (Kd.R_lt (puR HO_372001.out))) (l6_ (puN HB.out GE371.out GE372.out)));have n4_:=m_ (blk_below (g:=gb371) (o:=.cells #[.string a1_0,.slice Ao7 l1_1.length co7] 29 (0,0)) (puB BK371.out) hb);have n5_:=m_ (blk_below (g:=gb372) (o:=.cells #[.string (⟨#[]⟩ : ByteArray),.slice none 0 0] 29 (0,0)) (puB BK372.out) hb);have n6_:=m_ (Kept.below (S:=(fun k_=>P0_ k_ ∨ P1_1_ k_)) (by repeat (first|(with_reducible first|exact HK.out|apply Kept.alloc|apply Kept.drewN|apply Kept.drew|refine Kept.setCell ?_ (.inr GW371.out) _|refine Kept.setCell ?_ (.inr GW372.out) _)|exact HK.out)) hb);have n7_:=m_ (l5_ (puN HB.out GE371.out GE372.out) hb);revert n0_ n1_ n2_ n3_ n4_ n5_ n6_ n7_;clear HO_0 HO_372001 HO376 BK371 BK372 HK HB;intro HO_0 HO_372001 HO376 HO379 BK371 BK372 HK HB;clear hb ho34;have hcz35_0 : w33.cell? ⟨gb371,0,none⟩ = some (.string a1_0):=(c_ BK371.out 0).trans rfl;have hcz35_1 : w33.cell? ⟨gb371,1,none⟩ = some (.slice Ao7 l1_1.length co7):=(c_ BK371.out 1).trans rfl;have hfz35_0:=f_ BK371.out 0;have hfz35_1:=f_ BK371.out 1)|((with_reducible refine gate_builtin (b:=.append) (xs:=#[.tmp 57,.tmp 59]) rfl ?_);(try (refine gate_guard (by rfl) ?_;dsimp only));at_builtin;refine Kd.R_append_rows k41 (w0:=w0) w0.heap.size rfl (.tmp 57) (.tmp 59) 27 41 (.agg #[(.int .i64 0),(.string ⟨#[]⟩)]) 24 rfl Tryd.underlying27 info41 rfl (by decide) (by omega) v378 y377 l1_1 _ _ _ (fun k_=>((P0_ k_ ∨ P1_1_ k_) ∨ w.heap.size ≤ k_) ∧ some k_ ≠ (.slice Ao7 l1_1.length co7 : Value).ownBlock) (fun _=>False) rfl rfl ?aO ?aR (fun _ _ h=>h) (fun _ h=>h.elim) ?aF ?aB ?aS ?aL ?_;(case aR=>repeat (first|exact (Kd.R_reads' HO_372001.out).2.2|(with_reducible refine Kd.C_alloc ?_ _)|(with_reducible refine Kd.C_drewN ?_ _)|(with_reducible refine Kd.C_drew ?_)));(case aB=>exact (puN HB.out GE371.out GE372.out));(case aF=>exact (fun k_ hk=>⟨(.inr (Nat.le_trans (by first|exact HK.out.1|exact (show Kept w _ (fun k_=>P0_ k_ ∨ P1_1_ k_) from by repeat (first|(with_reducible first|exact HK.out|apply Kept.alloc|apply Kept.drewN|apply Kept.drew|refine Kept.setCell ?_ (.inr GW371.out) _|refine Kept.setCell ?_ (.inr GW372.out) _)|exact HK.out)).1) hk)),Kd.fresh' (Kd.R_lt (puR HO_372001.out)) k_ hk⟩));(case aO=>exact (by (with_reducible repeat (first|apply Kd.R_alloc|apply Kd.R_drewN|apply Kd.R_drew));exact Kd.R_mono HO379.out (fun _ hk=>⟨hk.1.1,hk.2⟩)));(case aS=>exact (l6_ (puN HB.out GE371.out GE372.out)));(case aL=>have:=LMc27.out;omega);intro v381 w36 ho hb hg hat;rw [← Ny380.out] at ho;have n0_:=m_ (Kd.Q_over' (puQ HO_0.out) (Kd.R_typed (puR HO379.out)) (by decide) hg);have n1_:=m_ (Kd.R_after (ok:=(fun k_=>((P0_ k_ ∨ P1_1_ k_) ∨ w.heap.size ≤ k_))) (puR HO_372001.out) hg hat);have n2_:=m_ (blk_grown (g:=gb371) (o:=.cells #[.string a1_0,.slice Ao7 l1_1.length co7] 29 (0,0)) (puB BK371.out) hg (Kd.R_ne HO379.out BK371.out (by decide)));have n3_:=m_ (blk_grown (g:=gb372) (o:=.cells #[.string (⟨#[]⟩ : ByteArray),.slice none 0 0] 29 (0,0)) (puB BK372.out) hg (Kd.R_ne HO379.out BK372.out (by decide)));have n4_:=m_ (Kd.R_over' (puR HO376.out) (Kd.R_typed (puR HO379.out)) (by decide) hg);have n5_:=m_ (hb);have n6_:=m_ (Kept.of_grown (S:=(fun k_=>P0_ k_ ∨ P1_1_ k_)) hg (by repeat (first|(with_reducible first|exact HK.out|apply Kept.alloc|apply Kept.drewN|apply Kept.drew|refine Kept.setCell ?_ (.inr GW371.out) _|refine Kept.setCell ?_ (.inr GW372.out) _)|exact HK.out)) (fun k_ e_=>(HO379.out.1 k_ e_).1.1));have n7_:=m_ (ho);revert n0_ n1_ n2_ n3_ n4_ n5_ n6_ n7_;clear HO_0 HO_372001 BK371 BK372 HO376 HB HK HO379;intro HO_0 HO_372001 BK371 BK372 HO376 HB HK HO382;clear ho hb hg hat;obtain ⟨Ao37,co37,eo37⟩:=Kd.R_slice HO382.out;subst eo37)|((with_reducible refine gate_dst (N:=17) rfl ?_);(try (refine gate_guard (by rfl) ?_;dsimp only));refine box_event ?hg (N:=17) ?hd (cs:=#[.string (⟨#[]⟩ : ByteArray),.slice none 0 0]) (t:=29) ?hr ?_;(case hd=>rfl);(case hg=>rfl);(case hr=>first|(go_simp;done)|(go_simp;rfl));intro gb383 hg w38 hbox hb;have n0_:=m_ (Kd.Q_below (puQ HO_0.out) hb);have n1_:=m_ (Kd.R_below (puR HO_372001.out) hb);have n2_:=m_ (Kd.R_below (puR HO376.out) hb);have n3_:=m_ (Kd.R_below (puR HO382.out) hb);have n4_:=m_ (blk_below (g:=gb371) (o:=.cells #[.string a1_0,.slice Ao7 l1_1.length co7] 29 (0,0)) (puB BK371.out) hb);have n5_:=m_ (blk_below (g:=gb372) (o:=.cells #[.string (⟨#[]⟩ : ByteArray),.slice none 0 0] 29 (0,0)) (puB BK372.out) hb);have n6_:=m_ (Kept.below (S:=(fun k_=>P0_ k_ ∨ P1_1_ k_)) (by repeat (first|(with_reducible first|exact HK.out|apply Kept.alloc|apply Kept.drewN|apply Kept.drew|refine Kept.setCell ?_ (.inr GW371.out) _|refine Kept.setCell ?_ (.inr GW372.out) _)|exact HK.out)) hb);have n7_:=m_ (l5_ (puN HB.out GE371.out GE372.out) hb);have n8_:=m_ (hbox);have n9_:=m_ ((by rw [hg];exact (by first|exact HK.out.1|exact (show Kept w _ (fun k_=>P0_ k_ ∨ P1_1_ k_) from by repeat (first|(with_reducible first|exact HK.out|apply Kept.alloc|apply Kept.drewN|apply Kept.drew|refine Kept.setCell ?_ (.inr GW371.out) _|refine Kept.setCell ?_ (.inr GW372.out) _)|exact HK.out)).1) : w.heap.size ≤ gb383));have n10_:=m_ ((by rw [hg];exact (l6_ (puN HB.out GE371.out GE372.out)) : w0.heap.size ≤ gb383));have n11_:=m_ ((by rw [hg];exact Nat.ne_of_lt (blk_lt (g:=gb371) (o:=.cells #[.string a1_0,.slice Ao7 l1_1.length co7] 29 (0,0)) (puB BK371.out)) : gb371 ≠ gb383));have n12_:=m_ n11_.out.symm;have n13_:=m_ ((by rw [hg];exact Nat.ne_of_lt (blk_lt (g:=gb372) (o:=.cells #[.string (⟨#[]⟩ : ByteArray),.slice none 0 0] 29 (0,0)) (puB BK372.out)) : gb372 ≠ gb383));have n14_:=m_ n13_.out.symm;revert n0_ n1_ n2_ n3_ n4_ n5_ n6_ n7_ n8_ n9_ n10_ n11_ n12_ n13_ n14_;clear HO_0 HO_372001 HO376 HO382 BK371 BK372 HK HB;intro HO_0 HO_372001 HO376 HO382 BK371 BK372 HK HB BK383 GW383 GE383 NB371_383 NB383_371 NB372_383 NB383_372;clear hb hbox hg;have hnb39:=NB383_371.out;have hnc39:=NB371_383.out;have hnb40:=NB383_372.out;have hnc40:=NB372_383.out;have hcz41_0 : w38.cell? ⟨gb383,0,none⟩ = some (.string (⟨#[]⟩ : ByteArray)):=(c_ BK383.out 0).trans rfl;have hcz41_1 : w38.cell? ⟨gb383,1,none⟩ = some (.slice none 0 0):=(c_ BK383.out 1).trans rfl;have hfz41_0:=f_ BK383.out 0;have hfz41_1:=f_ BK383.out 1;have hcz42_0 : w38.cell? ⟨gb371,0,none⟩ = some (.string a1_0):=(c_ BK371.out 0).trans rfl;have hcz42_1 : w38.cell? ⟨gb371,1,none⟩ = some (.slice Ao7 l1_1.length co7):=(c_ BK371.out 1).trans rfl;have hfz42_0:=f_ BK371.out 0;have hfz42_1:=f_ BK371.out 1))
     go_loopg [0,15,18] kj5 (fun kq v0 v15 v18 w'=>∃ (x0_2 : List (S98)) (x15_2 : Int) (x18_2 : Int) (x384001_2 : List (S41)) (u384001 : Value),v15 = .int .i64 x15_2 ∧ v18 = .int .i64 x18_2 ∧ Aside0 (spec_l11Put.l0 kq x0_2 a4 (a1_0 ++ (a3.extract ((ji21) : Int).toNat a3.size)) x15_2 t374 x18_2 (a1_0 ++ (a3.extract ((ji21) : Int).toNat a3.size)) x384001_2 = some (r1,r2,r3,r4)) ∧ Aside0 (kq ≤ kj5) ∧ Aside0 (Kd.Q k98 98 w' w0.heap.size (fun k_=>((P0_ k_ ∨ P1_1_ k_) ∨ w.heap.size ≤ k_)) v0 x0_2) ∧ Aside0 (Kd.R k45 45 w' w0.heap.size (fun k_=>((P0_ k_ ∨ P1_1_ k_) ∨ w.heap.size ≤ k_)) v375 t374) ∧ Aside0 (Kd.R k41 41 w' w0.heap.size (fun k_=>((P0_ k_ ∨ P1_1_ k_) ∨ w.heap.size ≤ k_) ∧ some k_ ≠ (u384001 : Value).ownBlock) (.slice Ao7 l1_1.length co7) l1_1) ∧ Aside0 (Kd.R k41 41 w' w0.heap.size (fun k_=>((P0_ k_ ∨ P1_1_ k_) ∨ w.heap.size ≤ k_) ∧ some k_ ≠ ((.slice Ao7 l1_1.length co7) : Value).ownBlock) u384001 x384001_2) ∧ Aside0 (w'.heap[gb371]? = some (.cells #[.string a1_0,(.slice Ao7 l1_1.length co7)] 29 (0,0))) ∧ Aside0 (w'.heap[gb372]? = some (.cells #[.string (⟨#[]⟩ : ByteArray),(.slice none 0 0)] 29 (0,0))) ∧ Aside0 (w'.heap[gb383]? = some (.cells #[.string (a1_0 ++ (a3.extract ((ji21) : Int).toNat a3.size)),u384001] 29 (0,0))) ∧ Aside0 (Kept w w' (fun k_=>P0_ k_ ∨ P1_1_ k_)) ∧ Aside0 (Below w0.heap.size w0 w'))
     case atStart=>exact ⟨(l0),(t373),((l1_1.length : Int)),(y380),(.slice Ao37 y380.length co37),(by first|rfl|(simp;done)|(simp [*];done)),(by first|rfl|(simp;done)|(simp [*];done)),H',⟨Nat.le_refl _⟩,⟨by (with_reducible repeat (first|apply Kd.Q_alloc|apply Kd.Q_drewN|apply Kd.Q_drew));exact Kd.Q_mono (Kd.Q_far (p:=⟨gb383,1,none⟩) (Kd.Q_far (p:=⟨gb383,0,none⟩) (Kd.Q_types HO_0.out BK383.out (by decide)) (fun _ hk=>hk.2) (.string (a1_0 ++ (a3.extract ((ji21) : Int).toNat a3.size)))) (fun _ hk=>hk.2) (.slice Ao37 y380.length co37)) (fun _ hk=>hk.1)⟩,⟨by (with_reducible repeat (first|apply Kd.R_alloc|apply Kd.R_drewN|apply Kd.R_drew));exact Kd.R_mono (Kd.R_far (p:=⟨gb383,1,none⟩) (Kd.R_far (p:=⟨gb383,0,none⟩) (Kd.R_types HO376.out BK383.out (by decide)) (fun _ hk=>hk.2) (.string (a1_0 ++ (a3.extract ((ji21) : Int).toNat a3.size)))) (fun _ hk=>hk.2) (.slice Ao37 y380.length co37)) (fun _ hk=>hk.1.1)⟩,⟨by (with_reducible repeat (first|apply Kd.R_alloc|apply Kd.R_drewN|apply Kd.R_drew));exact Kd.R_mono (Kd.R_far (p:=⟨gb383,1,none⟩) (Kd.R_far (p:=⟨gb383,0,none⟩) (Kd.R_types HO_372001.out BK383.out (by decide)) (fun _ hk=>hk.2) (.string (a1_0 ++ (a3.extract ((ji21) : Int).toNat a3.size)))) (fun _ hk=>hk.2) (.slice Ao37 y380.length co37)) (fun _ hk=>⟨hk.1.1,hk.1.2⟩)⟩,⟨by (with_reducible repeat (first|apply Kd.R_alloc|apply Kd.R_drewN|apply Kd.R_drew));exact Kd.R_mono (Kd.R_far (p:=⟨gb383,1,none⟩) (Kd.R_far (p:=⟨gb383,0,none⟩) (Kd.R_types HO382.out BK383.out (by decide)) (fun _ hk=>hk.2) (.string (a1_0 ++ (a3.extract ((ji21) : Int).toNat a3.size)))) (fun _ hk=>hk.2) (.slice Ao37 y380.length co37)) (fun _ hk=>⟨hk.1.1,hk.1.2⟩)⟩,⟨by (with_reducible repeat first|apply b1_|apply b2_|apply b3_);refine b4_ ?_ NB371_383.out _;(with_reducible repeat first|apply b1_|apply b2_|apply b3_);refine b4_ ?_ NB371_383.out _;(with_reducible repeat first|apply b1_|apply b2_|apply b3_);exact BK371.out⟩,⟨by (with_reducible repeat first|apply b1_|apply b2_|apply b3_);refine b4_ ?_ NB372_383.out _;(with_reducible repeat first|apply b1_|apply b2_|apply b3_);refine b4_ ?_ NB372_383.out _;(with_reducible repeat first|apply b1_|apply b2_|apply b3_);exact BK372.out⟩,⟨by (with_reducible repeat first|apply b1_|apply b2_|apply b3_);refine blk_put (cs:=#[.string (a1_0 ++ (a3.extract ((ji21) : Int).toNat a3.size)),.slice none 0 0]) ?_ 1 _ rfl;(with_reducible repeat first|apply b1_|apply b2_|apply b3_);refine blk_put (cs:=#[.string (⟨#[]⟩ : ByteArray),.slice none 0 0]) ?_ 0 _ rfl;(with_reducible repeat first|apply b1_|apply b2_|apply b3_);exact BK383.out⟩,⟨by repeat (first|(with_reducible first|exact HK.out|apply Kept.alloc|apply Kept.drewN|apply Kept.drew|refine Kept.setCell ?_ (.inr GW371.out) _|refine Kept.setCell ?_ (.inr GW372.out) _|refine Kept.setCell ?_ (.inr GW383.out) _)|exact HK.out)⟩,⟨by repeat (first|(with_reducible first|exact HB.out|apply l1_|apply l2_|apply l3_|refine l4_ ?_ GE371.out|refine l4_ ?_ GE372.out|refine l4_ ?_ GE383.out)|exact HB.out)⟩⟩
     case round =>
      clear H'
      try clear c1
      try clear c2
      try clear p2
      try clear c3
      try clear c4
      try clear c5
      try clear c6
      try clear p6
      try clear c10
      try clear c12
      try clear c12b0
      try clear c13
      try clear c17
      try clear c17b0
      try clear c22
      try clear c22b0
      try clear c22b1
      try clear c23
      try clear c23b0
      try clear c23b1
      try clear c24
      try clear c24b0
      try clear c24b1
      try clear c24b2
      try clear c27
      try clear c29
      try clear c39
      try clear c40
      try clear c41
      try clear hcz11_0
      try clear hcz11_1
      try clear hcz30_0
      try clear hcz30_1
      try clear hcz35_0
      try clear hcz35_1
      try clear hcz41_0
      try clear hcz41_1
      try clear hcz42_0
      try clear hcz42_1
      try clear hfz11_0
      try clear hfz11_1
      try clear hfz30_0
      try clear hfz30_1
      try clear hfz35_0
      try clear hfz35_1
      try clear hfz41_0
      try clear hfz41_1
      try clear hfz42_0
      try clear hfz42_1
      try clear p2
      try clear p6
      obtain ⟨x0_2,x15_2,x18_2,x384001_2,u384001,rfl,rfl,HA,HK2,HO_0,HO_16,HO_372001,HO_384001,BK371,BK372,BK383,HK,HB⟩:=hrel
      cases gk with
      | zero => exact absurd HA.out (by simp [spec_l11Put.l0])
      | succ k2 =>
       have H:=HA.out
       clear HA
       simp only [spec_l11Put.l0] at H
       by_cases c43 : x18_2 < (t374.length : Int)
       ·rw [if_pos c43] at H
        have c43b0 : decide (x18_2 < (t374.length : Int)) = true:=decide_eq_true c43
        clear c43
        by_cases c44 : 0 ≤ x18_2
        rotate_left
        ·rw [if_neg c44] at H
         exact absurd H (by simp)
        rw [if_pos c44] at H
        have c44b0 : decide (0 ≤ x18_2) = true:=decide_eq_true c44
        clear c44
        by_cases c45 : 0 ≤ x15_2
        rotate_left
        ·rw [if_neg c45] at H
         exact absurd H (by simp)
        rw [if_pos c45] at H
        have c45b0:=eq_true c45
        have c45b1:=decide_eq_true c45
        clear c45
        by_cases c46 : x15_2 ≤ (wrap64 (x15_2 + ((rd_T45 t374 x18_2).f0)))
        rotate_left
        ·rw [if_neg c46] at H
         exact absurd H (by simp)
        rw [if_pos c46] at H
        have c46b0:=eq_true c46
        have c46b1:=decide_eq_true c46
        clear c46
        by_cases c47 : (wrap64 (x15_2 + ((rd_T45 t374 x18_2).f0))) ≤ ((a1_0 ++ (a3.extract ((ji21) : Int).toNat a3.size)).size : Int)
        rotate_left
        ·rw [if_neg c47] at H
         exact absurd H (by simp)
        rw [if_pos c47] at H
        have c47b0:=eq_true c47
        have c47b1:=decide_eq_true c47
        try have hsl_c47:=fun (w_ : World)=>Go.run_slice_string (P:=Tryd.prog) w_ 9 (a1_0 ++ (a3.extract ((ji21) : Int).toNat a3.size)) .i64 .i64 (x15_2) ((wrap64 (x15_2 + ((rd_T45 t374 x18_2).f0)))) Tryd.underlying9 (of_eq_true c45b0) (of_eq_true c46b0) (of_eq_true c47b0)
        clear c47
        by_cases c48 : a4 = true
        ·subst c48
         have H1 : ((spec_l3PieceOut.f k2 x0_2 ((rd_T45 t374 x18_2).f0) ((rd_T45 t374 x18_2).f1) ((rd_T45 t374 x18_2).f2.f0) ((rd_T45 t374 x18_2).f2.f1) ((a1_0 ++ (a3.extract ((ji21) : Int).toNat a3.size)).extract (x15_2 : Int).toNat ((wrap64 (x15_2 + ((rd_T45 t374 x18_2).f0))) : Int).toNat)).bind fun bt386=>(if x384001_2.length < 5864062014805 then (spec_l11Put.l0 k2 bt386.1 true (a1_0 ++ (a3.extract ((ji21) : Int).toNat a3.size)) (wrap64 (x15_2 + ((rd_T45 t374 x18_2).f0))) t374 (wrap64 (x18_2 + 1)) (a1_0 ++ (a3.extract ((ji21) : Int).toNat a3.size)) (x384001_2 ++ [(⟨(rd_T45 t374 x18_2).f0,bt386.2⟩ : S41)])) else (none))) = some (r1,r2,r3,r4):=by rw [if_pos rfl] at H;exact H
         clear H
         have H:=H1
         clear H1
         replace H:=Option.bind_eq_some_iff.mp H
         obtain ⟨⟨t386,t389⟩,A490,H⟩:=H
         replace H : (if x384001_2.length < 5864062014805 then (spec_l11Put.l0 k2 t386 true (a1_0 ++ (a3.extract ((ji21) : Int).toNat a3.size)) (wrap64 (x15_2 + ((rd_T45 t374 x18_2).f0))) t374 (wrap64 (x18_2 + 1)) (a1_0 ++ (a3.extract ((ji21) : Int).toNat a3.size)) (x384001_2 ++ [(⟨(rd_T45 t374 x18_2).f0,t389⟩ : S41)])) else (none)) = some (r1,r2,r3,r4):=H
         have A49:=m_ A490
         clear A490
         by_cases c50 : x384001_2.length < 5864062014805
         rotate_left
         ·rw [if_neg c50] at H
          exact absurd H (by simp)
         rw [if_pos c50] at H
         have LMc50:=m_ c50
         clear c50
         obtain ⟨y391,hy391⟩ : ∃ y_ : List (S41),y_ = (x384001_2 ++ [(⟨(rd_T45 t374 x18_2).f0,t389⟩ : S41)]):=⟨_,rfl⟩
         replace H : (spec_l11Put.l0 k2 t386 true (a1_0 ++ (a3.extract ((ji21) : Int).toNat a3.size)) (wrap64 (x15_2 + ((rd_T45 t374 x18_2).f0))) t374 (wrap64 (x18_2 + 1)) (a1_0 ++ (a3.extract ((ji21) : Int).toNat a3.size)) y391) = some (r1,r2,r3,r4):=by first|(rw [hy391];with_reducible exact H)|(have H2_:=(Option.bind_some _ _).symm.trans H;rw [hy391];with_reducible exact H2_)|(have H2_:=(Option.bind_some _ _).symm.trans H;with_reducible exact H2_)|with_reducible exact H|(rw [hy391];exact H)|exact H
         have Ny391:=m_ hy391
         clear hy391
         have H':=m_ H
         clear H
         obtain ⟨Ao51,co51,eo51⟩:=Kd.R_slice HO_16.out
         subst eo51
         have p384 : 0 ≤ (x18_2 : Int):=of_decide_eq_true asm
         have q384 : x18_2 < (t374.length : Int):=of_decide_eq_true asm
         obtain ⟨ad384,e384,hx384_0,hx384_1,hx384_2,hx384_3⟩:=at_T45 (Kd.R_reads' HO_16.out).2.2 x18_2 p384 q384
         cases e384
         replace p384:=eq_true p384
         replace q384:=eq_true q384
         have p385 : 0 ≤ (x18_2 : Int):=of_decide_eq_true asm
         have q385 : x18_2 < (t374.length : Int):=of_decide_eq_true asm
         obtain ⟨ad385,e385,hx385_0,hx385_1,hx385_2,hx385_3⟩:=at_T45 (Kd.R_reads' HO_16.out).2.2 x18_2 p385 q385
         obtain rfl : ad384 = ad385:=(by injection e385)
         replace p385:=eq_true p385
         replace q385:=eq_true q385
         obtain ⟨Ao52,co52,eo52,_⟩:=Kd.Q_slice HO_0.out
         subst eo52
         try go_wp2_with (first|((with_reducible refine gate_callee (f:=69) rfl ?_);refine goesL_ (some 89) rfl rfl Tryd.func69 (by kernel_rfl) rfl #[.slice Ao52 x0_2.length co52,.agg #[.int .i64 ((rd_T45 t374 x18_2).f0),.bool ((rd_T45 t374 x18_2).f1),.int .i64 ((rd_T45 t374 x18_2).f2.f0),.int .i64 ((rd_T45 t374 x18_2).f2.f1)],.string ((a1_0 ++ (a3.extract ((ji21) : Int).toNat a3.size)).extract (x15_2 : Int).toNat ((wrap64 (x15_2 + ((rd_T45 t374 x18_2).f0))) : Int).toNat)] rfl (by (try simp only [List.map_toArray,List.map_cons,List.map_nil]);first|done|(simp only [hji21];rfl)|rfl|(simp only [List.length_drop,List.length_take];rfl)) ?_;(with_reducible refine (spec_l3PieceOut.calls k2 (fun k_=>some k_ = (.slice Ao52 x0_2.length co52 : Value).ownBlock) (.slice Ao52 x0_2.length co52) x0_2 ((rd_T45 t374 x18_2).f0) ((rd_T45 t374 x18_2).f1) ((rd_T45 t374 x18_2).f2.f0) ((rd_T45 t374 x18_2).f2.f1) ((a1_0 ++ (a3.extract ((ji21) : Int).toNat a3.size)).extract (x15_2 : Int).toNat ((wrap64 (x15_2 + ((rd_T45 t374 x18_2).f0))) : Int).toNat) t386 t389 w0 _ ?side1 ?side2 A49.out).mono ?_);(case side1=>repeat (first|(with_reducible first|exact HB.out|apply l1_|apply l2_|apply l3_|refine l4_ ?_ GE371.out|refine l4_ ?_ GE372.out|refine l4_ ?_ GE383.out)|exact HB.out));(case side2=>exact Kd.Q_tight rfl HO_0.out);rintro e w53 ⟨v387,rfl,ho0,hb,hkp⟩;refine ⟨_,rfl,?_⟩;have n0_:=m_ (Kd.R_mono (ok':=fun k_=>((P0_ k_ ∨ P1_1_ k_) ∨ w.heap.size ≤ k_)) (Kd.R_keptB ((Kd.R_apart' HO_16.out (Kd.Q_typed HO_0.out) (by decide))) hkp (fun k_ hk_ hs_=>(hk_.2) hs_)) (fun k_ hk_=>hk_.1.1));have n1_:=m_ (Kd.R_mono (ok':=fun k_=>((P0_ k_ ∨ P1_1_ k_) ∨ w.heap.size ≤ k_) ∧ some k_ ≠ (u384001 : Value).ownBlock) (Kd.R_keptB ((Kd.R_apart' HO_372001.out (Kd.Q_typed HO_0.out) (by decide))) hkp (fun k_ hk_ hs_=>(hk_.2) hs_)) (fun k_ hk_=>⟨hk_.1.1.1,hk_.1.1.2⟩));have n2_:=m_ (Kd.R_mono (ok':=fun k_=>((P0_ k_ ∨ P1_1_ k_) ∨ w.heap.size ≤ k_) ∧ some k_ ≠ (.slice Ao7 l1_1.length co7 : Value).ownBlock) (Kd.R_keptB ((Kd.R_apart' HO_384001.out (Kd.Q_typed HO_0.out) (by decide))) hkp (fun k_ hk_ hs_=>(hk_.2) hs_)) (fun k_ hk_=>⟨hk_.1.1.1,hk_.1.1.2⟩));have n3_:=m_ (blk_kept (puB BK371.out) hkp (fun hs_=>(fun e_=>(Kd.Q_ne HO_0.out BK371.out (by decide)) e_) hs_));have n4_:=m_ (blk_kept (puB BK372.out) hkp (fun hs_=>(fun e_=>(Kd.Q_ne HO_0.out BK372.out (by decide)) e_) hs_));have n5_:=m_ (blk_kept (puB BK383.out) hkp (fun hs_=>(fun e_=>(Kd.Q_ne HO_0.out BK383.out (by decide)) e_) hs_));have n6_:=m_ (Kd.Q_mono (ok':=fun k_=>((P0_ k_ ∨ P1_1_ k_) ∨ w.heap.size ≤ k_)) ho0 (fun k_ hk_=>Or.elim hk_ (fun hs_=>(HO_0.out.1 k_ (hs_).symm)) (fun hn_=>(.inr (Nat.le_trans (by first|exact HK.out.1|exact (show Kept w _ (fun k_=>P0_ k_ ∨ P1_1_ k_) from by repeat (first|(with_reducible first|exact HK.out|apply Kept.alloc|apply Kept.drewN|apply Kept.drew|refine Kept.setCell ?_ (.inr GW371.out) _|refine Kept.setCell ?_ (.inr GW372.out) _|refine Kept.setCell ?_ (.inr GW383.out) _)|exact HK.out)).1) hn_)))));have n7_:=m_ (Kept.then_ (S:=(fun k_=>P0_ k_ ∨ P1_1_ k_)) (by repeat (first|(with_reducible first|exact HK.out|apply Kept.alloc|apply Kept.drewN|apply Kept.drew|refine Kept.setCell ?_ (.inr GW371.out) _|refine Kept.setCell ?_ (.inr GW372.out) _|refine Kept.setCell ?_ (.inr GW383.out) _)|exact HK.out)) hkp (fun k_ hs_=>(fun e_=>(HO_0.out.1 k_ e_.symm)) hs_));have n8_:=m_ (hb);revert n0_ n1_ n2_ n3_ n4_ n5_ n6_ n7_ n8_;clear HO_16 HO_372001 HO_384001 BK371 BK372 BK383 HK HB HO_0;intro HO_16 HO_372001 HO_384001 BK371 BK372 BK383 HO388 HK HB;(try clear hb);(try clear hkp);(try clear ho0)))
         have n0_:=m_ (Kd.R_drew HO_16.out)
         have n1_:=m_ (Kd.R_drew HO_372001.out)
         have n2_:=m_ (Kd.R_drew HO_384001.out)
         have n3_:=m_ (Kd.Q_drew HO388.out)
         have n4_:=m_ (b2_ BK371.out)
         have n5_:=m_ (b2_ BK372.out)
         have n6_:=m_ (b2_ BK383.out)
         have n7_:=m_ (Kept.drew HK.out)
         have n8_:=m_ (l3_ HB.out)
         clear HO_16
         clear HO_372001
         clear HO_384001
         clear HO388
         clear BK371
         clear BK372
         clear BK383
         clear HK
         clear HB
         have HO_16:=n0_
         have HO_372001:=n1_
         have HO_384001:=n2_
         have HO388:=n3_
         have BK371:=n4_
         have BK372:=n5_
         have BK383:=n6_
         have HK:=n7_
         have HB:=n8_
         clear n0_ n1_ n2_ n3_ n4_ n5_ n6_ n7_ n8_
         have p390 : 0 ≤ (x18_2 : Int):=of_decide_eq_true asm
         have q390 : x18_2 < (t374.length : Int):=of_decide_eq_true asm
         obtain ⟨ad390,e390,hx390_0,hx390_1,hx390_2,hx390_3⟩:=at_T45 (Kd.R_reads' HO_16.out).2.2 x18_2 p390 q390
         obtain rfl : ad384 = ad390:=(by injection e390)
         replace p390:=eq_true p390
         replace q390:=eq_true q390
         refine start_ (n:=13) (S:=fun w'=>w'.cell? ⟨gb383,0,none⟩ = some (.string (a1_0 ++ (a3.extract ((ji21) : Int).toNat a3.size))) ∧ w'.cell? ⟨gb383,1,none⟩ = some (u384001) ∧ w'.cell? (ad384.add ((x18_2).toNat * 4)) = some (.int .i64 ((rd_T45 t374 x18_2).f0)) ∧ w'.cell? ⟨(ad384.add ((x18_2).toNat * 4)).block,(ad384.add ((x18_2).toNat * 4)).off + 1,none⟩ = some (.bool ((rd_T45 t374 x18_2).f1)) ∧ w'.cell? ⟨(ad384.add ((x18_2).toNat * 4)).block,(ad384.add ((x18_2).toNat * 4)).off + 2,none⟩ = some (.int .i64 ((rd_T45 t374 x18_2).f2.f0)) ∧ w'.cell? ⟨(ad384.add ((x18_2).toNat * 4)).block,(ad384.add ((x18_2).toNat * 4)).off + 3,none⟩ = some (.int .i64 ((rd_T45 t374 x18_2).f2.f1))) (ds:=[10,12]) #[false,false,false,false,false,false,false,false,false,false,false,false,false] (by kernel_rfl) rfl rfl ⟨(c_ BK383.out 0).trans rfl,(c_ BK383.out 1).trans rfl,hx390_0,hx390_1,hx390_2,hx390_3⟩ (fun hHeld=>?_);refine with_tabW spec_l11Put.tab18 spec_l11Put.bits18 (fun HT_ HW_=>?_)
         generalize w53.drew = w54 at HO_16 HO_372001 HO_384001 HO388 BK371 BK372 BK383 HK HB hx390_0 hx390_1 hx390_2 hx390_3 hHeld ⊢
         refine pureA 0 (some 99) HT_.out ?_
         refine pureA 2 (some 101) HT_.out ?_
         refine pureA 3 (some 102) HT_.out ?_
         refine pureA 4 (some 103) HT_.out ?_
         refine pureA 5 (some 104) HT_.out ?_
         refine pureA 7 (some 106) HT_.out ?_
         refine takeA 1 (some 100) rfl rfl HT_.out HW_.out hHeld ?_ (by rintro w' ⟨s0,s1,s2,s3,s4,s5⟩;go_simp;with_reducible rfl)
         refine takeA 6 (some 105) rfl rfl HT_.out HW_.out hHeld ?_ (by rintro w' ⟨s0,s1,s2,s3,s4,s5⟩;go_simp;with_reducible rfl)
         refine pureA 8 (some 107) HT_.out ?_
         refine one_ (i:=9) (N:=some 108) #[true,true,true,true,true,true,true,true,true,true,false,false,false] rfl rfl (one_of HT_.out (by kernel_rfl)) (by decide) (fun K hK=>?_)
         refine value_ (w1:=?_) (v:=?_) (by rfl) rfl ?_ ?_
         rotate_left 2
         ·go_simp
          constructor
          ·rfl
          ·rfl
         refine hK.out _ _ ⟨(c_ (b3_ BK383.out _) 0).trans rfl,(c_ (b3_ BK383.out _) 1).trans rfl,(World.cell?_alloc_lt _ _ _ (World.block_lt_of_cell? _ _ (hHeld.2.2.1))).trans (hHeld.2.2.1),(World.cell?_alloc_lt _ _ _ (World.block_lt_of_cell? _ _ (hHeld.2.2.2.1))).trans (hHeld.2.2.2.1),(World.cell?_alloc_lt _ _ _ (World.block_lt_of_cell? _ _ (hHeld.2.2.2.2.1))).trans (hHeld.2.2.2.2.1),(World.cell?_alloc_lt _ _ _ (World.block_lt_of_cell? _ _ (hHeld.2.2.2.2.2))).trans (hHeld.2.2.2.2.2)⟩ (fun hHeld=>?_)
         clear hK K
         refine norm_ (a':=?_) ?_ ?_
         rotate_left
         ·show Act.put _ (some 108) _ = _
          simp only [Act.put,s1_,s2_,s3_,i64_w,i32_w]
          rfl
         refine last_ (i:=10) (N:=some 109) #[true,true,true,true,true,true,true,true,true,true,true,false,false] rfl rfl (one_of HT_.out (by kernel_rfl)) (by decide) (fun K hK=>?_)
         refine Kd.R_append_step k41 (w0:=w0) w0.heap.size (by rfl) (.tmp 100) (.tmp 108) 27 41 (.agg #[(.int .i64 0),(.string ⟨#[]⟩)]) 24 rfl Tryd.underlying27 info41 rfl (by decide) (by omega) u384001 x384001_2 (⟨(rd_T45 t374 x18_2).f0,t389⟩ : S41) [.int .i64 ((rd_T45 t374 x18_2).f0),.string t389] (fun k_=>((P0_ k_ ∨ P1_1_ k_) ∨ w.heap.size ≤ k_) ∧ some k_ ≠ (.slice Ao7 l1_1.length co7 : Value).ownBlock) (fun _=>False) rfl rfl ?aP (fun _ hk=>hk.elim) ?aF ?aO ?aB ?aS ?aL ?_
         (case aP=>exact k41_mkM _ _ _ (⟨(rd_T45 t374 x18_2).f0,t389⟩ : S41))
         (case aB=>exact (by repeat (first|(with_reducible first|exact HB.out|apply l1_|apply l2_|apply l3_|refine l4_ ?_ GE371.out|refine l4_ ?_ GE372.out|refine l4_ ?_ GE383.out)|exact HB.out)))
         (case aF=>exact (fun k_ hk=>⟨(.inr (Nat.le_trans (by first|exact HK.out.1|exact (show Kept w _ (fun k_=>P0_ k_ ∨ P1_1_ k_) from by repeat (first|(with_reducible first|exact HK.out|apply Kept.alloc|apply Kept.drewN|apply Kept.drew|refine Kept.setCell ?_ (.inr GW371.out) _|refine Kept.setCell ?_ (.inr GW372.out) _|refine Kept.setCell ?_ (.inr GW383.out) _)|exact HK.out)).1) hk)),Kd.fresh' (Kd.R_lt (puR HO_372001.out)) k_ hk⟩))
         (case aO=>exact (puR HO_384001.out))
         (case aS=>exact (l6_ (by repeat (first|(with_reducible first|exact HB.out|apply l1_|apply l2_|apply l3_|refine l4_ ?_ GE371.out|refine l4_ ?_ GE372.out|refine l4_ ?_ GE383.out)|exact HB.out))))
         (case aL=>have:=LMc50.out;omega)
         intro v392 w55 ho hb hg hat
         rw [← Ny391.out] at ho
         have n0_:=m_ (Kd.R_over' (puR HO_16.out) (Kd.R_typed (puR HO_384001.out)) (by decide) hg)
         have n1_:=m_ (Kd.R_after (ok:=(fun k_=>((P0_ k_ ∨ P1_1_ k_) ∨ w.heap.size ≤ k_))) (puR HO_372001.out) hg hat)
         have n2_:=m_ (blk_grown (g:=gb371) (o:=.cells #[.string a1_0,.slice Ao7 l1_1.length co7] 29 (0,0)) (puB BK371.out) hg (Kd.R_ne HO_384001.out BK371.out (by decide)))
         have n3_:=m_ (blk_grown (g:=gb372) (o:=.cells #[.string (⟨#[]⟩ : ByteArray),.slice none 0 0] 29 (0,0)) (puB BK372.out) hg (Kd.R_ne HO_384001.out BK372.out (by decide)))
         have n4_:=m_ (blk_grown (g:=gb383) (o:=.cells #[.string (a1_0 ++ (a3.extract ((ji21) : Int).toNat a3.size)),u384001] 29 (0,0)) (puB BK383.out) hg (Kd.R_ne HO_384001.out BK383.out (by decide)))
         have n5_:=m_ (Kd.Q_over' (puQ HO388.out) (Kd.R_typed (puR HO_384001.out)) (by decide) hg)
         have n6_:=m_ (hb)
         have n7_:=m_ (Kept.of_grown (S:=(fun k_=>P0_ k_ ∨ P1_1_ k_)) hg (by repeat (first|(with_reducible first|exact HK.out|apply Kept.alloc|apply Kept.drewN|apply Kept.drew|refine Kept.setCell ?_ (.inr GW371.out) _|refine Kept.setCell ?_ (.inr GW372.out) _|refine Kept.setCell ?_ (.inr GW383.out) _)|exact HK.out)) (fun k_ e_=>(HO_384001.out.1 k_ e_).1))
         have n8_:=m_ (ho)
         clear HO_16
         clear HO_372001
         clear BK371
         clear BK372
         clear BK383
         clear HO388
         clear HB
         clear HK
         clear HO_384001
         have HO_16:=n0_
         have HO_372001:=n1_
         have BK371:=n2_
         have BK372:=n3_
         have BK383:=n4_
         have HO388:=n5_
         have HB:=n6_
         have HK:=n7_
         have HO393:=n8_
         clear n0_ n1_ n2_ n3_ n4_ n5_ n6_ n7_ n8_
         clear ho hb hg hat
         obtain ⟨Ao56,co56,eo56⟩:=Kd.R_slice HO393.out
         (first|subst eo56|(injection eo56 with f1_ f2_ f3_;have f4_:=f1_.symm;have f5_:=f3_.symm;clear f1_ f2_ f3_;subst f4_;subst f5_))
         refine hK.out _ _ ?_
         clear hK K
         refine norm_ (a':=?_) ?_ ?_
         rotate_left
         ·show Act.put _ (some 109) _ = _
          simp only [Act.put,s1_,s2_,s3_,i64_w,i32_w]
          rfl
         refine pureA 11 (some 110) HT_.out ?_
         refine last_ (i:=12) (N:=none) #[true,true,true,true,true,true,true,true,true,true,true,true,true] rfl rfl (one_of HT_.out (by kernel_rfl)) (by decide) (fun K hK=>?_)
         have hs57 : w55.cell? ⟨gb383,1,none⟩ = some (u384001):=(c_ BK383.out 1).trans rfl
         have hfs57:=f_ BK383.out 1
         have hns57_0:=NB371_383.out
         have hns57_1:=NB372_383.out
         have hms57_0:=NB383_371.out
         have hms57_1:=NB383_372.out
         refine skip_ (w1:=?_) (by rfl) rfl ?_ ?_
         rotate_left
         ·go_simp
          rfl
         refine hK.out _ _ ?_
         clear hK K
         refine done_ (done_of HT_.out (by kernel_rfl)) ?_
         have p394 : 0 ≤ (x18_2 : Int):=of_decide_eq_true asm
         have q394 : x18_2 < (t374.length : Int):=of_decide_eq_true asm
         obtain ⟨ad394,e394,hx394_0,hx394_1,hx394_2,hx394_3⟩:=at_T45 (Kd.R_reads' HO_16.out).2.2 x18_2 p394 q394
         obtain rfl : ad384 = ad394:=(by injection e394)
         have hn394_0 : ad384.block ≠ gb383:=Kd.own_blk (Kd.R_ne HO_16.out BK383.out (by decide))
         replace hx394_0:=(cell_far (p:=⟨gb383,1,none⟩) (by first|(rw [add_block];exact hn394_0)|(show (Addr.add _ _).block ≠ _;rw [add_block];exact hn394_0)|exact hn394_0) (.slice Ao56 y391.length co56)).trans hx394_0
         replace hx394_1:=(cell_far (p:=⟨gb383,1,none⟩) (by first|(rw [add_block];exact hn394_0)|(show (Addr.add _ _).block ≠ _;rw [add_block];exact hn394_0)|exact hn394_0) (.slice Ao56 y391.length co56)).trans hx394_1
         replace hx394_2:=(cell_far (p:=⟨gb383,1,none⟩) (by first|(rw [add_block];exact hn394_0)|(show (Addr.add _ _).block ≠ _;rw [add_block];exact hn394_0)|exact hn394_0) (.slice Ao56 y391.length co56)).trans hx394_2
         replace hx394_3:=(cell_far (p:=⟨gb383,1,none⟩) (by first|(rw [add_block];exact hn394_0)|(show (Addr.add _ _).block ≠ _;rw [add_block];exact hn394_0)|exact hn394_0) (.slice Ao56 y391.length co56)).trans hx394_3
         clear hn394_0
         replace p394:=eq_true p394
         replace q394:=eq_true q394
         try go_wp2
         go_roundg k2
         case measure=>have:=HJ5.out;have:=HK2.out;omega
         case rel=>exact ⟨(t386),(wrap64 (x15_2 + ((rd_T45 t374 x18_2).f0))),(wrap64 (x18_2 + 1)),(y391),(.slice Ao56 y391.length co56),(by first|rfl|(simp;done)|(simp [*];done)),(by first|rfl|(simp;done)|(simp [*];done)),H',⟨by have:=HJ5.out;have:=HK2.out;omega⟩,⟨by (with_reducible repeat (first|apply Kd.Q_alloc|apply Kd.Q_drewN|apply Kd.Q_drew));exact Kd.Q_mono (Kd.Q_far (p:=⟨gb383,1,none⟩) (Kd.Q_types HO388.out BK383.out (by decide)) (fun _ hk=>hk.2) (.slice Ao56 y391.length co56)) (fun _ hk=>hk.1)⟩,⟨by (with_reducible repeat (first|apply Kd.R_alloc|apply Kd.R_drewN|apply Kd.R_drew));exact Kd.R_mono (Kd.R_far (p:=⟨gb383,1,none⟩) (Kd.R_types HO_16.out BK383.out (by decide)) (fun _ hk=>hk.2) (.slice Ao56 y391.length co56)) (fun _ hk=>hk.1)⟩,⟨by (with_reducible repeat (first|apply Kd.R_alloc|apply Kd.R_drewN|apply Kd.R_drew));exact Kd.R_mono (Kd.R_far (p:=⟨gb383,1,none⟩) (Kd.R_types HO_372001.out BK383.out (by decide)) (fun _ hk=>hk.2) (.slice Ao56 y391.length co56)) (fun _ hk=>⟨hk.1.1,hk.1.2⟩)⟩,⟨by (with_reducible repeat (first|apply Kd.R_alloc|apply Kd.R_drewN|apply Kd.R_drew));exact Kd.R_mono (Kd.R_far (p:=⟨gb383,1,none⟩) (Kd.R_types HO393.out BK383.out (by decide)) (fun _ hk=>hk.2) (.slice Ao56 y391.length co56)) (fun _ hk=>⟨hk.1.1,hk.1.2⟩)⟩,⟨by (with_reducible repeat first|apply b1_|apply b2_|apply b3_);refine b4_ ?_ NB371_383.out _;(with_reducible repeat first|apply b1_|apply b2_|apply b3_);exact BK371.out⟩,⟨by (with_reducible repeat first|apply b1_|apply b2_|apply b3_);refine b4_ ?_ NB372_383.out _;(with_reducible repeat first|apply b1_|apply b2_|apply b3_);exact BK372.out⟩,⟨by (with_reducible repeat first|apply b1_|apply b2_|apply b3_);refine blk_put (cs:=#[.string (a1_0 ++ (a3.extract ((ji21) : Int).toNat a3.size)),u384001]) ?_ 1 _ rfl;(with_reducible repeat first|apply b1_|apply b2_|apply b3_);exact BK383.out⟩,⟨by repeat (first|(with_reducible first|exact HK.out|apply Kept.alloc|apply Kept.drewN|apply Kept.drew|refine Kept.setCell ?_ (.inr GW371.out) _|refine Kept.setCell ?_ (.inr GW372.out) _|refine Kept.setCell ?_ (.inr GW383.out) _)|exact HK.out)⟩,⟨by repeat (first|(with_reducible first|exact HB.out|apply l1_|apply l2_|apply l3_|refine l4_ ?_ GE371.out|refine l4_ ?_ GE372.out|refine l4_ ?_ GE383.out)|exact HB.out)⟩⟩
        ·replace c48:=Bool.eq_false_iff.mpr c48
         subst c48
         have H1 : ((spec_l3PieceIn.f k2 x0_2 ((rd_T45 t374 x18_2).f0) ((rd_T45 t374 x18_2).f1) ((rd_T45 t374 x18_2).f2.f0) ((rd_T45 t374 x18_2).f2.f1) ((a1_0 ++ (a3.extract ((ji21) : Int).toNat a3.size)).extract (x15_2 : Int).toNat ((wrap64 (x15_2 + ((rd_T45 t374 x18_2).f0))) : Int).toNat)).bind fun t396=>(if x384001_2.length < 5864062014805 then (spec_l11Put.l0 k2 x0_2 false (a1_0 ++ (a3.extract ((ji21) : Int).toNat a3.size)) (wrap64 (x15_2 + ((rd_T45 t374 x18_2).f0))) t374 (wrap64 (x18_2 + 1)) (a1_0 ++ (a3.extract ((ji21) : Int).toNat a3.size)) (x384001_2 ++ [(⟨(rd_T45 t374 x18_2).f0,t396⟩ : S41)])) else (none))) = some (r1,r2,r3,r4):=by rw [if_neg (show ¬ (false = true) by decide)] at H;exact H
         clear H
         have H:=H1
         clear H1
         replace H:=Option.bind_eq_some_iff.mp H
         obtain ⟨t396,A580,H⟩:=H
         replace H : (if x384001_2.length < 5864062014805 then (spec_l11Put.l0 k2 x0_2 false (a1_0 ++ (a3.extract ((ji21) : Int).toNat a3.size)) (wrap64 (x15_2 + ((rd_T45 t374 x18_2).f0))) t374 (wrap64 (x18_2 + 1)) (a1_0 ++ (a3.extract ((ji21) : Int).toNat a3.size)) (x384001_2 ++ [(⟨(rd_T45 t374 x18_2).f0,t396⟩ : S41)])) else (none)) = some (r1,r2,r3,r4):=H
         have A58:=m_ A580
         clear A580
         by_cases c59 : x384001_2.length < 5864062014805
         rotate_left
         ·rw [if_neg c59] at H
          exact absurd H (by simp)
         rw [if_pos c59] at H
         have LMc59:=m_ c59
         clear c59
         obtain ⟨y398,hy398⟩ : ∃ y_ : List (S41),y_ = (x384001_2 ++ [(⟨(rd_T45 t374 x18_2).f0,t396⟩ : S41)]):=⟨_,rfl⟩
         replace H : (spec_l11Put.l0 k2 x0_2 false (a1_0 ++ (a3.extract ((ji21) : Int).toNat a3.size)) (wrap64 (x15_2 + ((rd_T45 t374 x18_2).f0))) t374 (wrap64 (x18_2 + 1)) (a1_0 ++ (a3.extract ((ji21) : Int).toNat a3.size)) y398) = some (r1,r2,r3,r4):=by first|(rw [hy398];with_reducible exact H)|(have H2_:=(Option.bind_some _ _).symm.trans H;rw [hy398];with_reducible exact H2_)|(have H2_:=(Option.bind_some _ _).symm.trans H;with_reducible exact H2_)|with_reducible exact H|(rw [hy398];exact H)|exact H
         have Ny398:=m_ hy398
         clear hy398
         have H':=m_ H
         clear H
         obtain ⟨Ao60,co60,eo60⟩:=Kd.R_slice HO_16.out
         subst eo60
         have p384 : 0 ≤ (x18_2 : Int):=of_decide_eq_true asm
         have q384 : x18_2 < (t374.length : Int):=of_decide_eq_true asm
         obtain ⟨ad384,e384,hx384_0,hx384_1,hx384_2,hx384_3⟩:=at_T45 (Kd.R_reads' HO_16.out).2.2 x18_2 p384 q384
         cases e384
         replace p384:=eq_true p384
         replace q384:=eq_true q384
         have p395 : 0 ≤ (x18_2 : Int):=of_decide_eq_true asm
         have q395 : x18_2 < (t374.length : Int):=of_decide_eq_true asm
         obtain ⟨ad395,e395,hx395_0,hx395_1,hx395_2,hx395_3⟩:=at_T45 (Kd.R_reads' HO_16.out).2.2 x18_2 p395 q395
         obtain rfl : ad384 = ad395:=(by injection e395)
         replace p395:=eq_true p395
         replace q395:=eq_true q395
         obtain ⟨Ao61,co61,eo61,_⟩:=Kd.Q_slice HO_0.out
         subst eo61
         try go_wp2_with (first|((with_reducible refine gate_callee (f:=70) rfl ?_);refine goesL_ (some 98) rfl rfl Tryd.func70 (by kernel_rfl) rfl #[.slice Ao61 x0_2.length co61,.agg #[.int .i64 ((rd_T45 t374 x18_2).f0),.bool ((rd_T45 t374 x18_2).f1),.int .i64 ((rd_T45 t374 x18_2).f2.f0),.int .i64 ((rd_T45 t374 x18_2).f2.f1)],.string ((a1_0 ++ (a3.extract ((ji21) : Int).toNat a3.size)).extract (x15_2 : Int).toNat ((wrap64 (x15_2 + ((rd_T45 t374 x18_2).f0))) : Int).toNat)] rfl (by (try simp only [List.map_toArray,List.map_cons,List.map_nil]);first|done|(simp only [hji21];rfl)|rfl|(simp only [List.length_drop,List.length_take];rfl)) ?_;(with_reducible refine (spec_l3PieceIn.calls k2 _ _ x0_2 ((rd_T45 t374 x18_2).f0) ((rd_T45 t374 x18_2).f1) ((rd_T45 t374 x18_2).f2.f0) ((rd_T45 t374 x18_2).f2.f1) ((a1_0 ++ (a3.extract ((ji21) : Int).toNat a3.size)).extract (x15_2 : Int).toNat ((wrap64 (x15_2 + ((rd_T45 t374 x18_2).f0))) : Int).toNat) t396 _ ?side1 ?side2 A58.out).mono ?_);(case side1=>repeat (first|exact (Kd.Q_reads' HO_0.out).2.2|(with_reducible refine Kd.C_alloc ?_ _)|(with_reducible refine Kd.C_drewN ?_ _)|(with_reducible refine Kd.C_drew ?_)));(case side2=>exact (Kd.Q_reads' HO_0.out).2.1);rintro e w62 ⟨rfl,hb⟩;refine ⟨_,rfl,?_⟩;have n0_:=m_ (Kd.Q_below (puQ HO_0.out) hb);have n1_:=m_ (Kd.R_below (puR HO_16.out) hb);have n2_:=m_ (Kd.R_below (puR HO_372001.out) hb);have n3_:=m_ (Kd.R_below (puR HO_384001.out) hb);have n4_:=m_ (blk_below (g:=gb371) (o:=.cells #[.string a1_0,.slice Ao7 l1_1.length co7] 29 (0,0)) (puB BK371.out) hb);have n5_:=m_ (blk_below (g:=gb372) (o:=.cells #[.string (⟨#[]⟩ : ByteArray),.slice none 0 0] 29 (0,0)) (puB BK372.out) hb);have n6_:=m_ (blk_below (g:=gb383) (o:=.cells #[.string (a1_0 ++ (a3.extract ((ji21) : Int).toNat a3.size)),u384001] 29 (0,0)) (puB BK383.out) hb);have n7_:=m_ (Kept.below (S:=(fun k_=>P0_ k_ ∨ P1_1_ k_)) (by repeat (first|(with_reducible first|exact HK.out|apply Kept.alloc|apply Kept.drewN|apply Kept.drew|refine Kept.setCell ?_ (.inr GW371.out) _|refine Kept.setCell ?_ (.inr GW372.out) _|refine Kept.setCell ?_ (.inr GW383.out) _)|exact HK.out)) hb);have n8_:=m_ (l5_ (by repeat (first|(with_reducible first|exact HB.out|apply l1_|apply l2_|apply l3_|refine l4_ ?_ GE371.out|refine l4_ ?_ GE372.out|refine l4_ ?_ GE383.out)|exact HB.out)) hb);revert n0_ n1_ n2_ n3_ n4_ n5_ n6_ n7_ n8_;clear HO_0 HO_16 HO_372001 HO_384001 BK371 BK372 BK383 HK HB;intro HO_0 HO_16 HO_372001 HO_384001 BK371 BK372 BK383 HK HB;(try clear hb);(try clear hb2);(try clear hk);(try clear hi)))
         have n0_:=m_ (Kd.Q_drew HO_0.out)
         have n1_:=m_ (Kd.R_drew HO_16.out)
         have n2_:=m_ (Kd.R_drew HO_372001.out)
         have n3_:=m_ (Kd.R_drew HO_384001.out)
         have n4_:=m_ (b2_ BK371.out)
         have n5_:=m_ (b2_ BK372.out)
         have n6_:=m_ (b2_ BK383.out)
         have n7_:=m_ (Kept.drew HK.out)
         have n8_:=m_ (l3_ HB.out)
         clear HO_0
         clear HO_16
         clear HO_372001
         clear HO_384001
         clear BK371
         clear BK372
         clear BK383
         clear HK
         clear HB
         have HO_0:=n0_
         have HO_16:=n1_
         have HO_372001:=n2_
         have HO_384001:=n3_
         have BK371:=n4_
         have BK372:=n5_
         have BK383:=n6_
         have HK:=n7_
         have HB:=n8_
         clear n0_ n1_ n2_ n3_ n4_ n5_ n6_ n7_ n8_
         have p397 : 0 ≤ (x18_2 : Int):=of_decide_eq_true asm
         have q397 : x18_2 < (t374.length : Int):=of_decide_eq_true asm
         obtain ⟨ad397,e397,hx397_0,hx397_1,hx397_2,hx397_3⟩:=at_T45 (Kd.R_reads' HO_16.out).2.2 x18_2 p397 q397
         obtain rfl : ad384 = ad397:=(by injection e397)
         replace p397:=eq_true p397
         replace q397:=eq_true q397
         refine start_ (n:=13) (S:=fun w'=>w'.cell? ⟨gb383,0,none⟩ = some (.string (a1_0 ++ (a3.extract ((ji21) : Int).toNat a3.size))) ∧ w'.cell? ⟨gb383,1,none⟩ = some (u384001) ∧ w'.cell? (ad384.add ((x18_2).toNat * 4)) = some (.int .i64 ((rd_T45 t374 x18_2).f0)) ∧ w'.cell? ⟨(ad384.add ((x18_2).toNat * 4)).block,(ad384.add ((x18_2).toNat * 4)).off + 1,none⟩ = some (.bool ((rd_T45 t374 x18_2).f1)) ∧ w'.cell? ⟨(ad384.add ((x18_2).toNat * 4)).block,(ad384.add ((x18_2).toNat * 4)).off + 2,none⟩ = some (.int .i64 ((rd_T45 t374 x18_2).f2.f0)) ∧ w'.cell? ⟨(ad384.add ((x18_2).toNat * 4)).block,(ad384.add ((x18_2).toNat * 4)).off + 3,none⟩ = some (.int .i64 ((rd_T45 t374 x18_2).f2.f1))) (ds:=[10,12]) #[false,false,false,false,false,false,false,false,false,false,false,false,false] (by kernel_rfl) rfl rfl ⟨(c_ BK383.out 0).trans rfl,(c_ BK383.out 1).trans rfl,hx397_0,hx397_1,hx397_2,hx397_3⟩ (fun hHeld=>?_);refine with_tabW spec_l11Put.tab18 spec_l11Put.bits18 (fun HT_ HW_=>?_)
         generalize w62.drew = w63 at HO_0 HO_16 HO_372001 HO_384001 BK371 BK372 BK383 HK HB hx397_0 hx397_1 hx397_2 hx397_3 hHeld ⊢
         refine pureA 0 (some 99) HT_.out ?_
         refine pureA 2 (some 101) HT_.out ?_
         refine pureA 3 (some 102) HT_.out ?_
         refine pureA 4 (some 103) HT_.out ?_
         refine pureA 5 (some 104) HT_.out ?_
         refine pureA 7 (some 106) HT_.out ?_
         refine takeA 1 (some 100) rfl rfl HT_.out HW_.out hHeld ?_ (by rintro w' ⟨s0,s1,s2,s3,s4,s5⟩;go_simp;with_reducible rfl)
         refine takeA 6 (some 105) rfl rfl HT_.out HW_.out hHeld ?_ (by rintro w' ⟨s0,s1,s2,s3,s4,s5⟩;go_simp;with_reducible rfl)
         refine pureA 8 (some 107) HT_.out ?_
         refine one_ (i:=9) (N:=some 108) #[true,true,true,true,true,true,true,true,true,true,false,false,false] rfl rfl (one_of HT_.out (by kernel_rfl)) (by decide) (fun K hK=>?_)
         refine value_ (w1:=?_) (v:=?_) (by rfl) rfl ?_ ?_
         rotate_left 2
         ·go_simp
          constructor
          ·rfl
          ·rfl
         refine hK.out _ _ ⟨(c_ (b3_ BK383.out _) 0).trans rfl,(c_ (b3_ BK383.out _) 1).trans rfl,(World.cell?_alloc_lt _ _ _ (World.block_lt_of_cell? _ _ (hHeld.2.2.1))).trans (hHeld.2.2.1),(World.cell?_alloc_lt _ _ _ (World.block_lt_of_cell? _ _ (hHeld.2.2.2.1))).trans (hHeld.2.2.2.1),(World.cell?_alloc_lt _ _ _ (World.block_lt_of_cell? _ _ (hHeld.2.2.2.2.1))).trans (hHeld.2.2.2.2.1),(World.cell?_alloc_lt _ _ _ (World.block_lt_of_cell? _ _ (hHeld.2.2.2.2.2))).trans (hHeld.2.2.2.2.2)⟩ (fun hHeld=>?_)
         clear hK K
         refine norm_ (a':=?_) ?_ ?_
         rotate_left
         ·show Act.put _ (some 108) _ = _
          simp only [Act.put,s1_,s2_,s3_,i64_w,i32_w]
          rfl
         refine last_ (i:=10) (N:=some 109) #[true,true,true,true,true,true,true,true,true,true,true,false,false] rfl rfl (one_of HT_.out (by kernel_rfl)) (by decide) (fun K hK=>?_)
         refine Kd.R_append_step k41 (w0:=w0) w0.heap.size (by rfl) (.tmp 100) (.tmp 108) 27 41 (.agg #[(.int .i64 0),(.string ⟨#[]⟩)]) 24 rfl Tryd.underlying27 info41 rfl (by decide) (by omega) u384001 x384001_2 (⟨(rd_T45 t374 x18_2).f0,t396⟩ : S41) [.int .i64 ((rd_T45 t374 x18_2).f0),.string t396] (fun k_=>((P0_ k_ ∨ P1_1_ k_) ∨ w.heap.size ≤ k_) ∧ some k_ ≠ (.slice Ao7 l1_1.length co7 : Value).ownBlock) (fun _=>False) rfl rfl ?aP (fun _ hk=>hk.elim) ?aF ?aO ?aB ?aS ?aL ?_
         (case aP=>exact k41_mkM _ _ _ (⟨(rd_T45 t374 x18_2).f0,t396⟩ : S41))
         (case aB=>exact (by repeat (first|(with_reducible first|exact HB.out|apply l1_|apply l2_|apply l3_|refine l4_ ?_ GE371.out|refine l4_ ?_ GE372.out|refine l4_ ?_ GE383.out)|exact HB.out)))
         (case aF=>exact (fun k_ hk=>⟨(.inr (Nat.le_trans (by first|exact HK.out.1|exact (show Kept w _ (fun k_=>P0_ k_ ∨ P1_1_ k_) from by repeat (first|(with_reducible first|exact HK.out|apply Kept.alloc|apply Kept.drewN|apply Kept.drew|refine Kept.setCell ?_ (.inr GW371.out) _|refine Kept.setCell ?_ (.inr GW372.out) _|refine Kept.setCell ?_ (.inr GW383.out) _)|exact HK.out)).1) hk)),Kd.fresh' (Kd.R_lt (puR HO_372001.out)) k_ hk⟩))
         (case aO=>exact (puR HO_384001.out))
         (case aS=>exact (l6_ (by repeat (first|(with_reducible first|exact HB.out|apply l1_|apply l2_|apply l3_|refine l4_ ?_ GE371.out|refine l4_ ?_ GE372.out|refine l4_ ?_ GE383.out)|exact HB.out))))
         (case aL=>have:=LMc59.out;omega)
         intro v399 w64 ho hb hg hat
         rw [← Ny398.out] at ho
         have n0_:=m_ (Kd.Q_over' (puQ HO_0.out) (Kd.R_typed (puR HO_384001.out)) (by decide) hg)
         have n1_:=m_ (Kd.R_over' (puR HO_16.out) (Kd.R_typed (puR HO_384001.out)) (by decide) hg)
         have n2_:=m_ (Kd.R_after (ok:=(fun k_=>((P0_ k_ ∨ P1_1_ k_) ∨ w.heap.size ≤ k_))) (puR HO_372001.out) hg hat)
         have n3_:=m_ (blk_grown (g:=gb371) (o:=.cells #[.string a1_0,.slice Ao7 l1_1.length co7] 29 (0,0)) (puB BK371.out) hg (Kd.R_ne HO_384001.out BK371.out (by decide)))
         have n4_:=m_ (blk_grown (g:=gb372) (o:=.cells #[.string (⟨#[]⟩ : ByteArray),.slice none 0 0] 29 (0,0)) (puB BK372.out) hg (Kd.R_ne HO_384001.out BK372.out (by decide)))
         have n5_:=m_ (blk_grown (g:=gb383) (o:=.cells #[.string (a1_0 ++ (a3.extract ((ji21) : Int).toNat a3.size)),u384001] 29 (0,0)) (puB BK383.out) hg (Kd.R_ne HO_384001.out BK383.out (by decide)))
         have n6_:=m_ (hb)
         have n7_:=m_ (Kept.of_grown (S:=(fun k_=>P0_ k_ ∨ P1_1_ k_)) hg (by repeat (first|(with_reducible first|exact HK.out|apply Kept.alloc|apply Kept.drewN|apply Kept.drew|refine Kept.setCell ?_ (.inr GW371.out) _|refine Kept.setCell ?_ (.inr GW372.out) _|refine Kept.setCell ?_ (.inr GW383.out) _)|exact HK.out)) (fun k_ e_=>(HO_384001.out.1 k_ e_).1))
         have n8_:=m_ (ho)
         clear HO_0
         clear HO_16
         clear HO_372001
         clear BK371
         clear BK372
         clear BK383
         clear HB
         clear HK
         clear HO_384001
         have HO_0:=n0_
         have HO_16:=n1_
         have HO_372001:=n2_
         have BK371:=n3_
         have BK372:=n4_
         have BK383:=n5_
         have HB:=n6_
         have HK:=n7_
         have HO400:=n8_
         clear n0_ n1_ n2_ n3_ n4_ n5_ n6_ n7_ n8_
         clear ho hb hg hat
         obtain ⟨Ao65,co65,eo65⟩:=Kd.R_slice HO400.out
         (first|subst eo65|(injection eo65 with f1_ f2_ f3_;have f4_:=f1_.symm;have f5_:=f3_.symm;clear f1_ f2_ f3_;subst f4_;subst f5_))
         refine hK.out _ _ ?_
         clear hK K
         refine norm_ (a':=?_) ?_ ?_
         rotate_left
         ·show Act.put _ (some 109) _ = _
          simp only [Act.put,s1_,s2_,s3_,i64_w,i32_w]
          rfl
         refine pureA 11 (some 110) HT_.out ?_
         refine last_ (i:=12) (N:=none) #[true,true,true,true,true,true,true,true,true,true,true,true,true] rfl rfl (one_of HT_.out (by kernel_rfl)) (by decide) (fun K hK=>?_)
         have hs66 : w64.cell? ⟨gb383,1,none⟩ = some (u384001):=(c_ BK383.out 1).trans rfl
         have hfs66:=f_ BK383.out 1
         have hns66_0:=NB371_383.out
         have hns66_1:=NB372_383.out
         have hms66_0:=NB383_371.out
         have hms66_1:=NB383_372.out
         refine skip_ (w1:=?_) (by rfl) rfl ?_ ?_
         rotate_left
         ·go_simp
          rfl
         refine hK.out _ _ ?_
         clear hK K
         refine done_ (done_of HT_.out (by kernel_rfl)) ?_
         have p401 : 0 ≤ (x18_2 : Int):=of_decide_eq_true asm
         have q401 : x18_2 < (t374.length : Int):=of_decide_eq_true asm
         obtain ⟨ad401,e401,hx401_0,hx401_1,hx401_2,hx401_3⟩:=at_T45 (Kd.R_reads' HO_16.out).2.2 x18_2 p401 q401
         obtain rfl : ad384 = ad401:=(by injection e401)
         have hn401_0 : ad384.block ≠ gb383:=Kd.own_blk (Kd.R_ne HO_16.out BK383.out (by decide))
         replace hx401_0:=(cell_far (p:=⟨gb383,1,none⟩) (by first|(rw [add_block];exact hn401_0)|(show (Addr.add _ _).block ≠ _;rw [add_block];exact hn401_0)|exact hn401_0) (.slice Ao65 y398.length co65)).trans hx401_0
         replace hx401_1:=(cell_far (p:=⟨gb383,1,none⟩) (by first|(rw [add_block];exact hn401_0)|(show (Addr.add _ _).block ≠ _;rw [add_block];exact hn401_0)|exact hn401_0) (.slice Ao65 y398.length co65)).trans hx401_1
         replace hx401_2:=(cell_far (p:=⟨gb383,1,none⟩) (by first|(rw [add_block];exact hn401_0)|(show (Addr.add _ _).block ≠ _;rw [add_block];exact hn401_0)|exact hn401_0) (.slice Ao65 y398.length co65)).trans hx401_2
         replace hx401_3:=(cell_far (p:=⟨gb383,1,none⟩) (by first|(rw [add_block];exact hn401_0)|(show (Addr.add _ _).block ≠ _;rw [add_block];exact hn401_0)|exact hn401_0) (.slice Ao65 y398.length co65)).trans hx401_3
         clear hn401_0
         replace p401:=eq_true p401
         replace q401:=eq_true q401
         try go_wp2
         go_roundg k2
         case measure=>have:=HJ5.out;have:=HK2.out;omega
         case rel=>exact ⟨(x0_2),(wrap64 (x15_2 + ((rd_T45 t374 x18_2).f0))),(wrap64 (x18_2 + 1)),(y398),(.slice Ao65 y398.length co65),(by first|rfl|(simp;done)|(simp [*];done)),(by first|rfl|(simp;done)|(simp [*];done)),H',⟨by have:=HJ5.out;have:=HK2.out;omega⟩,⟨by (with_reducible repeat (first|apply Kd.Q_alloc|apply Kd.Q_drewN|apply Kd.Q_drew));exact Kd.Q_mono (Kd.Q_far (p:=⟨gb383,1,none⟩) (Kd.Q_types HO_0.out BK383.out (by decide)) (fun _ hk=>hk.2) (.slice Ao65 y398.length co65)) (fun _ hk=>hk.1)⟩,⟨by (with_reducible repeat (first|apply Kd.R_alloc|apply Kd.R_drewN|apply Kd.R_drew));exact Kd.R_mono (Kd.R_far (p:=⟨gb383,1,none⟩) (Kd.R_types HO_16.out BK383.out (by decide)) (fun _ hk=>hk.2) (.slice Ao65 y398.length co65)) (fun _ hk=>hk.1)⟩,⟨by (with_reducible repeat (first|apply Kd.R_alloc|apply Kd.R_drewN|apply Kd.R_drew));exact Kd.R_mono (Kd.R_far (p:=⟨gb383,1,none⟩) (Kd.R_types HO_372001.out BK383.out (by decide)) (fun _ hk=>hk.2) (.slice Ao65 y398.length co65)) (fun _ hk=>⟨hk.1.1,hk.1.2⟩)⟩,⟨by (with_reducible repeat (first|apply Kd.R_alloc|apply Kd.R_drewN|apply Kd.R_drew));exact Kd.R_mono (Kd.R_far (p:=⟨gb383,1,none⟩) (Kd.R_types HO400.out BK383.out (by decide)) (fun _ hk=>hk.2) (.slice Ao65 y398.length co65)) (fun _ hk=>⟨hk.1.1,hk.1.2⟩)⟩,⟨by (with_reducible repeat first|apply b1_|apply b2_|apply b3_);refine b4_ ?_ NB371_383.out _;(with_reducible repeat first|apply b1_|apply b2_|apply b3_);exact BK371.out⟩,⟨by (with_reducible repeat first|apply b1_|apply b2_|apply b3_);refine b4_ ?_ NB372_383.out _;(with_reducible repeat first|apply b1_|apply b2_|apply b3_);exact BK372.out⟩,⟨by (with_reducible repeat first|apply b1_|apply b2_|apply b3_);refine blk_put (cs:=#[.string (a1_0 ++ (a3.extract ((ji21) : Int).toNat a3.size)),u384001]) ?_ 1 _ rfl;(with_reducible repeat first|apply b1_|apply b2_|apply b3_);exact BK383.out⟩,⟨by repeat (first|(with_reducible first|exact HK.out|apply Kept.alloc|apply Kept.drewN|apply Kept.drew|refine Kept.setCell ?_ (.inr GW371.out) _|refine Kept.setCell ?_ (.inr GW372.out) _|refine Kept.setCell ?_ (.inr GW383.out) _)|exact HK.out)⟩,⟨by repeat (first|(with_reducible first|exact HB.out|apply l1_|apply l2_|apply l3_|refine l4_ ?_ GE371.out|refine l4_ ?_ GE372.out|refine l4_ ?_ GE383.out)|exact HB.out)⟩⟩
       ·rw [if_neg c43] at H
        have c43b0 : decide (x18_2 < (t374.length : Int)) = false:=decide_eq_false c43
        clear c43
        simp only [Option.some.injEq,Prod.mk.injEq] at H
        obtain ⟨rfl,rfl,rfl,rfl⟩:=H
        obtain ⟨Ao67,co67,eo67⟩:=Kd.R_slice HO_16.out
        subst eo67
        try go_wp2
        have n0_:=m_ (Kd.Q_drew HO_0.out)
        have n1_:=m_ (Kd.R_drew HO_16.out)
        have n2_:=m_ (Kd.R_drew HO_372001.out)
        have n3_:=m_ (Kd.R_drew HO_384001.out)
        have n4_:=m_ (b2_ BK371.out)
        have n5_:=m_ (b2_ BK372.out)
        have n6_:=m_ (b2_ BK383.out)
        have n7_:=m_ (Kept.drew HK.out)
        have n8_:=m_ (l3_ HB.out)
        clear HO_0
        clear HO_16
        clear HO_372001
        clear HO_384001
        clear BK371
        clear BK372
        clear BK383
        clear HK
        clear HB
        have HO_0:=n0_
        have HO_16:=n1_
        have HO_372001:=n2_
        have HO_384001:=n3_
        have BK371:=n4_
        have BK372:=n5_
        have BK383:=n6_
        have HK:=n7_
        have HB:=n8_
        clear n0_ n1_ n2_ n3_ n4_ n5_ n6_ n7_ n8_
        obtain ⟨Ao70,co70,eo70⟩:=Kd.R_slice HO_384001.out
        (first|subst eo70|(injection eo70 with f1_ f2_ f3_;have f4_:=f1_.symm;have f5_:=f3_.symm;clear f1_ f2_ f3_;subst f4_;subst f5_))
        refine start_ (n:=5) (S:=fun w'=>w'.cell? ⟨gb383,0,none⟩ = some (.string (a1_0 ++ (a3.extract ((ji21) : Int).toNat a3.size))) ∧ w'.cell? ⟨gb383,1,none⟩ = some (.slice Ao70 x384001_2.length co70)) (ds:=[]) #[false,false,false,false,false] (by kernel_rfl) rfl rfl ⟨(c_ BK383.out 0).trans rfl,(c_ BK383.out 1).trans rfl⟩ (fun hHeld=>?_)
        generalize wr.drew = w68 at HO_0 HO_16 HO_372001 HO_384001 BK371 BK372 BK383 HK HB hHeld ⊢
        refine pureK 0 (some 118) ?_
        refine pureK 2 (some 10) ?_
        refine take_ (i:=1) (N:=some 119) (v:=?_) (a':=?_) #[true,true,true,false,false] rfl rfl (by kernel_rfl) (fun _ _ _ h=>h) (Or.inl ⟨by rfl,?_⟩) hHeld ?_ ?_
        rotate_left
        ·rintro w' ⟨s0,s1⟩
         go_simp
         with_reducible rfl
        rotate_left
        ·simp only [Act.put,s1_,s2_,s3_,i64_w,i32_w]
         rfl
        refine one_ (i:=3) (N:=none) #[true,true,true,true,false] rfl rfl (by kernel_rfl) (by decide) (fun K hK=>?_)
        have hs69 : w68.cell? ⟨gb372,0,none⟩ = some (.string (⟨#[]⟩ : ByteArray)):=(c_ BK372.out 0).trans rfl
        have hfs69:=f_ BK372.out 0
        have hns69_0:=NB371_372.out
        have hns69_2:=NB383_372.out
        have hms69_0:=NB372_371.out
        have hms69_2:=NB372_383.out
        have hs71 : w68.cell? ⟨gb372,1,none⟩ = some (.slice none 0 0):=(c_ BK372.out 1).trans rfl
        have hfs71:=f_ BK372.out 1
        have hns71_0:=NB371_372.out
        have hns71_2:=NB383_372.out
        have hms71_0:=NB372_371.out
        have hms71_2:=NB372_383.out
        refine skip_ (w1:=?_) (by rfl) rfl ?_ ?_
        rotate_left
        ·go_simp
         rfl
        refine hK.out _ _ ⟨((cell_far (p:=⟨gb372,_,none⟩) NB383_372.out _).trans (((cell_far (p:=⟨gb372,_,none⟩) NB383_372.out _).trans (hHeld.1)))),((cell_far (p:=⟨gb372,_,none⟩) NB383_372.out _).trans (((cell_far (p:=⟨gb372,_,none⟩) NB383_372.out _).trans (hHeld.2))))⟩ (fun hHeld=>?_)
        clear hK K
        refine pureK 4 (some 12) ?_
        refine done_ (by kernel_rfl) ?_
        try go_wp2
        refine bodyPost_ret (results_list (rs:=[.tmp 10,.cell 11 29,.tmp 12]) rfl (by simp) (.tmp (.cell gb372 29 #[.string (a1_0 ++ (a3.extract ((ji21) : Int).toNat a3.size)),.slice Ao70 x384001_2.length co70] (0,0) _ rfl (by (with_reducible repeat first|apply b1_|apply b2_|apply b3_);refine blk_put (cs:=#[.string (a1_0 ++ (a3.extract ((ji21) : Int).toNat a3.size)),.slice none 0 0]) ?_ 1 _ rfl;(with_reducible repeat first|apply b1_|apply b2_|apply b3_);refine blk_put (cs:=#[.string (⟨#[]⟩ : ByteArray),.slice none 0 0]) ?_ 0 _ rfl;(with_reducible repeat first|apply b1_|apply b2_|apply b3_);exact BK372.out) Tryd.underlying29 rfl (by kernel_rfl) (.tmp .nil)))) rfl ?_
        exact ⟨_,_,by first|rfl|(simp [e1_,e2_] <;> rfl)|(simp only [← hji21];first|rfl|(simp [e1_,e2_] <;> rfl))|(simp [*,e1_,e2_] <;> rfl)|(simp [e1_,e2_,pk_empty1,pk_empty2];done)|(simp [*,e1_,e2_,pk_empty1,pk_empty2];done),by (with_reducible repeat (first|apply Kd.Q_alloc|apply Kd.Q_drewN|apply Kd.Q_drew));exact Kd.Q_mono (Kd.Q_far (p:=⟨gb372,1,none⟩) (Kd.Q_far (p:=⟨gb372,0,none⟩) (Kd.Q_types HO_0.out BK372.out (by decide)) (fun _ hk=>hk.2) (.string (a1_0 ++ (a3.extract ((ji21) : Int).toNat a3.size)))) (fun _ hk=>hk.2) (.slice Ao70 x384001_2.length co70)) (fun _ hk=>hk.1),by (with_reducible repeat (first|apply Kd.R_alloc|apply Kd.R_drewN|apply Kd.R_drew));exact Kd.R_mono (Kd.R_far (p:=⟨gb372,1,none⟩) (Kd.R_far (p:=⟨gb372,0,none⟩) (Kd.R_types HO_384001.out BK372.out (by decide)) (fun _ hk=>hk.2) (.string (a1_0 ++ (a3.extract ((ji21) : Int).toNat a3.size)))) (fun _ hk=>hk.2) (.slice Ao70 x384001_2.length co70)) (fun _ hk=>hk.1.1),by repeat (first|(with_reducible first|exact HB.out|apply l1_|apply l2_|apply l3_|refine l4_ ?_ GE371.out|refine l4_ ?_ GE372.out|refine l4_ ?_ GE383.out)|exact HB.out),by repeat (first|(with_reducible first|exact HK.out|apply Kept.alloc|apply Kept.drewN|apply Kept.drew|refine Kept.setCell ?_ (.inr GW371.out) _|refine Kept.setCell ?_ (.inr GW372.out) _|refine Kept.setCell ?_ (.inr GW383.out) _)|exact HK.out)⟩

end Go.Proofs.YtkcjmmhleepjeaaDoor.A
