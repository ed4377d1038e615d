-- Printed by myprint.py (wip/tools) out of the translation. Not trusted: Lean checks it.
import Derived.Test.YtkcjmmhleepjeaaGreatDoorAx0
import Derived.Test.YtkcjmmhleepjeaaGreatDoorAx8
import Derived.Test.YtkcjmmhleepjeaaGreatDoorAx9
namespace Go.Proofs.YtkcjmmhleepjeaaGreatDoor.A
open Go.RowKit Go.Proofs.YtkcjmmhleepjeaaGreatDoorW.PrintWords Go.Proofs.YtkcjmmhleepjeaaGreatDoorW.PrintLast Go.Proofs.YtkcjmmhleepjeaaGreatDoorW.PrintMore
attribute [local go_sem] max2_int min2_int max_two min_two max_three min_three max_four min_four
set_option linter.unusedVariables false
set_option linter.unusedSimpArgs false

/-! ### spec_l11Put: function 44 -/
mutual
def spec_l11Put.j0 : Nat → List (S79) → Int → ByteArray → Bool → Int → Bool → ByteArray → List (S31) → Option ((List (S79)) × ByteArray × (List (S31)) × Bool)
 | 0, _, _, _, _, _, _, _, _ => none
 | k + 1, x0, x2, x3, x4, x13, x33, x271000, x271001 => if x33 = true then (some (x0, x271000, x271001, false)) else (if (wrap64 (x2 + (x3.size : Int))) ≤ x13 then (some (x0, x271000, x271001, true)) else (if 0 ≤ (wrap64 (x13 - x2)) then (if (wrap64 (x13 - x2)) ≤ (x3.size : Int) then (if x271000.size + (x3.size - ((wrap64 (x13 - x2)) : Int).toNat) ≤ 9223372036854775807 then ((spec_l11Done.f k x271000 x271001).bind fun t272 => ((spec_l2Pieces.f k (x271000 ++ (x3.extract ((wrap64 (x13 - x2)) : Int).toNat x3.size))).bind fun t273 => ((some (([] : List (S31)) : List (S31))).bind fun y276 => (if y276.length + x271001.length < 5864062014805 then (spec_l11Put.l0 k x0 x4 (x271000 ++ (x3.extract ((wrap64 (x13 - x2)) : Int).toNat x3.size)) t272 t273 (x271001.length : Int) (x271000 ++ (x3.extract ((wrap64 (x13 - x2)) : Int).toNat x3.size)) (y276 ++ x271001)) else (none))))) else (none)) else (none)) else (none)))
def spec_l11Put.l0 : Nat → List (S79) → Bool → ByteArray → Int → List (S51) → Int → ByteArray → List (S31) → Option ((List (S79)) × ByteArray × (List (S31)) × Bool)
 | 0, _, _, _, _, _, _, _, _ => none
 | k + 1, x0, x4, x14, x15, x16, x18, x283000, x283001 => if x18 < (x16.length : Int) then (if 0 ≤ x18 then (if 0 ≤ x15 then (if x15 ≤ (wrap64 (x15 + ((rd_T51 x16 x18).f0))) then (if (wrap64 (x15 + ((rd_T51 x16 x18).f0))) ≤ (x14.size : Int) then (if x4 = true then ((spec_l3PieceOut.f k x0 ((rd_T51 x16 x18).f0) ((rd_T51 x16 x18).f1) ((rd_T51 x16 x18).f2.f0) ((rd_T51 x16 x18).f2.f1) (x14.extract (x15 : Int).toNat ((wrap64 (x15 + ((rd_T51 x16 x18).f0))) : Int).toNat)).bind fun bt285 => (if x283001.length < 5864062014805 then (spec_l11Put.l0 k bt285.1 x4 x14 (wrap64 (x15 + ((rd_T51 x16 x18).f0))) x16 (wrap64 (x18 + 1)) x283000 (x283001 ++ [(⟨(rd_T51 x16 x18).f0, bt285.2⟩ : S31)])) else (none))) else ((spec_l3PieceIn.f k x0 ((rd_T51 x16 x18).f0) ((rd_T51 x16 x18).f1) ((rd_T51 x16 x18).f2.f0) ((rd_T51 x16 x18).f2.f1) (x14.extract (x15 : Int).toNat ((wrap64 (x15 + ((rd_T51 x16 x18).f0))) : Int).toNat)).bind fun t295 => (if x283001.length < 5864062014805 then (spec_l11Put.l0 k x0 x4 x14 (wrap64 (x15 + ((rd_T51 x16 x18).f0))) x16 (wrap64 (x18 + 1)) x283000 (x283001 ++ [(⟨(rd_T51 x16 x18).f0, t295⟩ : S31)])) else (none)))) else (none)) else (none)) else (none)) else (none)) else (some (x0, x283000, x283001, true))
end
def spec_l11Put.f (k : Nat) (l0 : List (S79)) (a1_0 : ByteArray) (l1_1 : List (S31)) (a2 : Int) (a3 : ByteArray) (a4 : Bool) : Option ((List (S79)) × ByteArray × (List (S31)) × Bool) := if a2 > (a1_0.size : Int) then (spec_l11Put.j0 k l0 a2 a3 a4 (a1_0.size : Int) true a1_0 l1_1) else (spec_l11Put.j0 k l0 a2 a3 a4 (a1_0.size : Int) (decide ((wrap64 (a2 + (a3.size : Int))) > 40)) a1_0 l1_1)
theorem spec_l11Put.mono_l : ∀ k, (∀ y0 y1 y2 y3 y4 y5 y6 y7, LeO (spec_l11Put.j0 k y0 y1 y2 y3 y4 y5 y6 y7) (spec_l11Put.j0 (k + 1) y0 y1 y2 y3 y4 y5 y6 y7)) ∧ (∀ y0 y1 y2 y3 y4 y5 y6 y7, LeO (spec_l11Put.l0 k y0 y1 y2 y3 y4 y5 y6 y7) (spec_l11Put.l0 (k + 1) y0 y1 y2 y3 y4 y5 y6 y7))
 | 0 => ⟨fun _ _ _ _ _ _ _ _ r h => by simp [spec_l11Put.j0] at h, fun _ _ _ _ _ _ _ _ r h => by simp [spec_l11Put.l0] at h⟩
 | k + 1 => by
  obtain ⟨ih0,ih1⟩:=spec_l11Put.mono_l k
  refine ⟨?_,?_⟩
  ·intro y0 y1 y2 y3 y4 y5 y6 y7
   unfold spec_l11Put.j0
   exact leo6 ih0 ih1 spec_l11Done.mono spec_l2Pieces.mono spec_l3PieceIn.mono spec_l3PieceOut.mono
  ·intro y0 y1 y2 y3 y4 y5 y6 y7
   unfold spec_l11Put.l0
   exact leo6 ih0 ih1 spec_l11Done.mono spec_l2Pieces.mono spec_l3PieceIn.mono spec_l3PieceOut.mono
theorem spec_l11Put.mono : ∀ a0 a1 a2 a3 a4 a5 k, LeO (spec_l11Put.f k a0 a1 a2 a3 a4 a5) (spec_l11Put.f (k + 1) a0 a1 a2 a3 a4 a5) := by
 intro a0 a1 a2 a3 a4 a5 k
 obtain ⟨ih0,ih1⟩:=spec_l11Put.mono_l k
 unfold spec_l11Put.f
 exact leo6 ih0 ih1 spec_l11Done.mono spec_l2Pieces.mono spec_l3PieceIn.mono spec_l3PieceOut.mono
def spec_l11Put.T6 : Bool × List (List Nat × List Nat) := (true, [([], []), ([0], [0]), ([], []), ([], []), ([], []), ([3, 4], [3, 4]), ([2, 5], [2, 5]), ([1, 6], [1, 6]), ([7, 0, 1, 2, 3, 4, 5, 6, 7], [7])])
def spec_l11Put.B6 : List Nat := [0, 1, 0, 0, 0, 24, 60, 127, 255]
theorem spec_l11Put.tab6 : rtab .any (opsOf Tryz.f44 6) = spec_l11Put.T6 := by kernel_rfl
theorem spec_l11Put.bits6 : waitsOk spec_l11Put.T6.2 spec_l11Put.B6 = true := by kernel_rfl
def spec_l11Put.T18 : Bool × List (List Nat × List Nat) := (true, [([], []), ([0], [0]), ([], []), ([], []), ([2, 3], [2, 3]), ([4], [4]), ([5], [5]), ([], []), ([6, 7], [6, 7]), ([8], [8]), ([1, 9], [1, 9]), ([0, 1, 2, 3, 4, 5, 6, 7, 8, 9, 10], []), ([11, 10, 10, 0, 1, 2, 3, 4, 5, 6, 7, 8, 9, 10], [10, 11])])
def spec_l11Put.B18 : List Nat := [0, 1, 0, 0, 12, 28, 60, 0, 252, 508, 1023, 2047, 4095]
theorem spec_l11Put.tab18 : rtab .any (opsOf Tryz.f44 18) = spec_l11Put.T18 := by kernel_rfl
theorem spec_l11Put.bits18 : waitsOk spec_l11Put.T18.2 spec_l11Put.B18 = true := by kernel_rfl
set_option maxHeartbeats 8000000 in
set_option maxRecDepth 100000 in
theorem spec_l11Put.calls (k : Nat) (P0_ : Nat → Prop) (u9000_ : Value) (l0 : List (S79)) (a1_0 : ByteArray) (P1_1_ : Nat → Prop) (u9001_ : Value) (l1_1 : List (S31)) (a2 : Int) (a3 : ByteArray) (a4 : Bool) (r1 : List (S79)) (r2 : ByteArray) (r3 : List (S31)) (r4 : Bool) (w0 w : World) (hB : Below w0.heap.size w0 w) (ho0 : Kd.Q k79 79 w w0.heap.size P0_ u9000_ l0) (ho1_1 : Kd.R k31 31 w w0.heap.size P1_1_ u9001_ l1_1) (h : spec_l11Put.f k l0 a1_0 l1_1 a2 a3 a4 = some (r1, r2, r3, r4)) :
  Calls Tryz.prog 44 #[u9000_,.agg #[.string a1_0,u9001_],.int .i64 a2,.string a3,.bool a4] w fun e w'=>∃ v0_ v2_ : Value,e = .returned (.tuple #[v0_,.agg #[.string r2,v2_],.bool r4]) ∧ Kd.Q k79 79 w' w0.heap.size (fun k_=>((P0_ k_ ∨ P1_1_ k_) ∨ w.heap.size ≤ k_)) v0_ r1 ∧ Kd.R k31 31 w' w0.heap.size (fun k_=>((P0_ k_ ∨ P1_1_ k_) ∨ w.heap.size ≤ k_)) v2_ r3 ∧ Below w0.heap.size w0 w' ∧ Kept w w' (fun k_=>P0_ k_ ∨ P1_1_ k_):=by
 have hu25:=Tryz.underlying25
 have hu51:=Tryz.underlying51
 have hu31:=Tryz.underlying31
 have HO0:=m_ (show Kd.Q k79 79 w w0.heap.size (fun k_=>((P0_ k_ ∨ P1_1_ k_) ∨ w.heap.size ≤ k_)) u9000_ l0 from Kd.Q_mono ho0 (fun k_ hk=>(.inl (.inl hk))))
 have HO1_1:=m_ (show Kd.R k31 31 w w0.heap.size (fun k_=>((P0_ k_ ∨ P1_1_ k_) ∨ w.heap.size ≤ k_)) u9001_ l1_1 from Kd.R_mono ho1_1 (fun k_ hk=>(.inl (.inr hk))))
 have HK:=m_ (Kept.refl w (fun k_=>P0_ k_ ∨ P1_1_ k_))
 have HW0:=m_ hB.size
 have HB:=m_ hB
 clear hB
 have H : (if a2 > (a1_0.size : Int) then (spec_l11Put.j0 k l0 a2 a3 a4 (a1_0.size : Int) true a1_0 l1_1) else (spec_l11Put.j0 k l0 a2 a3 a4 (a1_0.size : Int) (decide ((wrap64 (a2 + (a3.size : Int))) > 40)) a1_0 l1_1)) = some (r1,r2,r3,r4):=h
 clear h
 have HC6:=m_ H
 clear H
 obtain ⟨Ao7,co7,eo7⟩:=Kd.R_slice HO1_1.out
 subst eo7
 go_enter Tryz.func44,Tryz.ntmps44
 go_upto_region 2 with (first|((with_reducible refine gate_dst (N:=6) rfl ?_);(try (refine gate_guard (by rfl) ?_;dsimp only));refine box_event ?hg (N:=6) ?hd (cs:=#[.string a1_0,.slice Ao7 l1_1.length co7]) (t:=25) ?hr ?_;(case hd=>rfl);(case hg=>rfl);(case hr=>first|(go_simp;done)|(go_simp;rfl));intro gb270 hg w8 hbox hb;have n0_:=m_ (Kd.Q_below (puQ HO0.out) hb);have n1_:=m_ (Kd.R_below (puR HO1_1.out) hb);have n2_:=m_ (Kept.below (S:=(fun k_=>P0_ k_ ∨ P1_1_ k_)) (by repeat (first|(with_reducible first|exact HK.out|apply Kept.alloc|apply Kept.drewN|apply Kept.drew)|exact HK.out)) hb);have n3_:=m_ (l5_ (puL HB.out) hb);have n4_:=m_ (hbox);have n5_:=m_ ((by rw [hg];exact (by first|exact HK.out.1|exact (show Kept w _ (fun k_=>P0_ k_ ∨ P1_1_ k_) from by repeat (first|(with_reducible first|exact HK.out|apply Kept.alloc|apply Kept.drewN|apply Kept.drew)|exact HK.out)).1) : w.heap.size ≤ gb270));have n6_:=m_ ((by rw [hg];exact (l6_ (puL HB.out)) : w0.heap.size ≤ gb270));revert n0_ n1_ n2_ n3_ n4_ n5_ n6_;clear HO0 HO1_1 HK HB;intro HO0 HO1_1 HK HB BK270 GW270 GE270;clear hb hbox hg)|((with_reducible refine gate_dst (N:=11) rfl ?_);(try (refine gate_guard (by rfl) ?_;dsimp only));refine box_event ?hg (N:=11) ?hd (cs:=#[.string (⟨#[]⟩ : ByteArray),.slice none 0 0]) (t:=25) ?hr ?_;(case hd=>rfl);(case hg=>rfl);(case hr=>first|(go_simp;done)|(go_simp;rfl));intro gb271 hg w9 hbox hb;have n0_:=m_ (Kd.Q_below (puQ HO0.out) hb);have n1_:=m_ (Kd.R_below (puR HO1_1.out) hb);have n2_:=m_ (blk_below (g:=gb270) (o:=.cells #[.string a1_0,.slice Ao7 l1_1.length co7] 25 (0,0)) (puB BK270.out) hb);have n3_:=m_ (Kept.below (S:=(fun k_=>P0_ k_ ∨ P1_1_ k_)) (by repeat (first|(with_reducible first|exact HK.out|apply Kept.alloc|apply Kept.drewN|apply Kept.drew|refine Kept.setCell ?_ (.inr GW270.out) _)|exact HK.out)) hb);have n4_:=m_ (l5_ (puM HB.out GE270.out) hb);have n5_:=m_ (hbox);have n6_:=m_ ((by rw [hg];exact (by first|exact HK.out.1|exact (show Kept w _ (fun k_=>P0_ k_ ∨ P1_1_ k_) from by repeat (first|(with_reducible first|exact HK.out|apply Kept.alloc|apply Kept.drewN|apply Kept.drew|refine Kept.setCell ?_ (.inr GW270.out) _)|exact HK.out)).1) : w.heap.size ≤ gb271));have n7_:=m_ ((by rw [hg];exact (l6_ (puM HB.out GE270.out)) : w0.heap.size ≤ gb271));have n8_:=m_ ((by rw [hg];exact Nat.ne_of_lt (blk_lt (g:=gb270) (o:=.cells #[.string a1_0,.slice Ao7 l1_1.length co7] 25 (0,0)) (puB BK270.out)) : gb270 ≠ gb271));have n9_:=m_ n8_.out.symm;revert n0_ n1_ n2_ n3_ n4_ n5_ n6_ n7_ n8_ n9_;clear HO0 HO1_1 BK270 HK HB;intro HO0 HO1_1 BK270 HK HB BK271 GW271 GE271 NB270_271 NB271_270;clear hb hbox hg;have hnb10:=NB270_271.out;have hnc10:=NB271_270.out;have hcz11_0 : w9.cell? ⟨gb270,0,none⟩ = some (.string a1_0):=(c_ BK270.out 0).trans rfl;have hcz11_1 : w9.cell? ⟨gb270,1,none⟩ = some (.slice Ao7 l1_1.length co7):=(c_ BK270.out 1).trans rfl;have hfz11_0:=f_ BK270.out 0;have hfz11_1:=f_ BK270.out 1))
 (try simp only [Act.put,s1_,s2_,s3_])
 go_cut [33] (fun v33 wc=>∃ (kq : Nat) (x33_5 : Bool),v33 = .bool x33_5 ∧ Aside0 (spec_l11Put.j0 kq l0 a2 a3 a4 (a1_0.size : Int) x33_5 a1_0 l1_1 = some (r1,r2,r3,r4)) ∧ Aside0 (kq ≤ k) ∧ Aside0 (Kd.Q k79 79 wc w0.heap.size (fun k_=>((P0_ k_ ∨ P1_1_ k_) ∨ w.heap.size ≤ k_)) u9000_ l0) ∧ Aside0 (Kd.R k31 31 wc w0.heap.size (fun k_=>((P0_ k_ ∨ P1_1_ k_) ∨ w.heap.size ≤ k_)) (.slice Ao7 l1_1.length co7) l1_1) ∧ Aside0 (wc.heap[gb270]? = some (.cells #[.string a1_0,(.slice Ao7 l1_1.length co7)] 25 (0,0))) ∧ Aside0 (wc.heap[gb271]? = some (.cells #[.string (⟨#[]⟩ : ByteArray),(.slice none 0 0)] 25 (0,0))) ∧ Aside0 (Kept w wc (fun k_=>P0_ k_ ∨ P1_1_ k_)) ∧ Aside0 (Below w0.heap.size w0 wc))
 case first =>
  have H:=HC6.out
  clear HC6
  by_cases c12 : a2 > (a1_0.size : Int)
  ·rw [if_pos c12] at H
   have c12b0 : decide ((a1_0.size : Int) < a2) = true:=decide_eq_true c12
   clear c12
   (first|rw [c12b0]|(simp only [i64_w,i32_w];rw [c12b0])|skip)
   have H':=m_ H
   clear H
   go_wp2
   go_meet
   case rel=>exact ⟨_,(true),(by first|rfl|(simp;done)|(simp [*];done)),H',⟨by first|omega|exact Nat.le_refl _⟩,⟨by (with_reducible repeat (first|apply Kd.Q_alloc|apply Kd.Q_drewN|apply Kd.Q_drew));exact HO0.out⟩,⟨by (with_reducible repeat (first|apply Kd.R_alloc|apply Kd.R_drewN|apply Kd.R_drew));exact HO1_1.out⟩,⟨by (with_reducible repeat first|apply b1_|apply b2_|apply b3_);exact BK270.out⟩,⟨by (with_reducible repeat first|apply b1_|apply b2_|apply b3_);exact BK271.out⟩,⟨by repeat (first|(with_reducible first|exact HK.out|apply Kept.alloc|apply Kept.drewN|apply Kept.drew|refine Kept.setCell ?_ (.inr GW270.out) _|refine Kept.setCell ?_ (.inr GW271.out) _)|exact HK.out)⟩,⟨puN HB.out GE270.out GE271.out⟩⟩
  ·rw [if_neg c12] at H
   have c12b0 : decide ((a1_0.size : Int) < a2) = false:=decide_eq_false c12
   clear c12
   (first|rw [c12b0]|(simp only [i64_w,i32_w];rw [c12b0])|skip)
   have H':=m_ H
   clear H
   go_wp2
   go_meet
   case rel=>exact ⟨_,(decide ((wrap64 (a2 + (a3.size : Int))) > 40)),(by first|rfl|(simp;done)|(simp [*];done)),H',⟨by first|omega|exact Nat.le_refl _⟩,⟨by (with_reducible repeat (first|apply Kd.Q_alloc|apply Kd.Q_drewN|apply Kd.Q_drew));exact HO0.out⟩,⟨by (with_reducible repeat (first|apply Kd.R_alloc|apply Kd.R_drewN|apply Kd.R_drew));exact HO1_1.out⟩,⟨by (with_reducible repeat first|apply b1_|apply b2_|apply b3_);exact BK270.out⟩,⟨by (with_reducible repeat first|apply b1_|apply b2_|apply b3_);exact BK271.out⟩,⟨by repeat (first|(with_reducible first|exact HK.out|apply Kept.alloc|apply Kept.drewN|apply Kept.drew|refine Kept.setCell ?_ (.inr GW270.out) _|refine Kept.setCell ?_ (.inr GW271.out) _)|exact HK.out)⟩,⟨puN HB.out GE270.out GE271.out⟩⟩
 case rest =>
  clear HC6
  try clear c1
  try clear p2
  try clear c4
  try clear p6
  try clear c10
  try clear c12
  try clear c12b0
  try clear hcz11_0
  try clear hcz11_1
  try clear hfz11_0
  try clear hfz11_1
  obtain ⟨kq,x33_5,rfl,HA,HJ5,HO_0,HO_271001,BK270,BK271,HK,HB⟩:=hcut
  cases kq with
  | zero => exact absurd HA.out (by simp [spec_l11Put.j0])
  | succ kj5 =>
   have H:=HA.out
   clear HA
   simp only [spec_l11Put.j0] at H
   by_cases c13 : x33_5 = true
   ·subst c13
    replace H:=ifp H rfl
    simp only [Option.some.injEq,Prod.mk.injEq] at H
    obtain ⟨rfl,rfl,rfl,rfl⟩:=H
    try go_wp2
    have n0_:=m_ (Kd.Q_drew HO_0.out)
    have n1_:=m_ (Kd.R_drew HO_271001.out)
    have n2_:=m_ (b2_ BK270.out)
    have n3_:=m_ (b2_ BK271.out)
    have n4_:=m_ (Kept.drew HK.out)
    have n5_:=m_ (l3_ HB.out)
    clear HO_0
    clear HO_271001
    clear BK270
    clear BK271
    clear HK
    clear HB
    have HO_0:=n0_
    have HO_271001:=n1_
    have BK270:=n2_
    have BK271:=n3_
    have HK:=n4_
    have HB:=n5_
    clear n0_ n1_ n2_ n3_ n4_ n5_
    refine start_ (n:=5) (S:=fun w'=>w'.cell? ⟨gb270,0,none⟩ = some (.string a1_0) ∧ w'.cell? ⟨gb270,1,none⟩ = some (.slice Ao7 l1_1.length co7)) (ds:=[]) #[false,false,false,false,false] (by kernel_rfl) rfl rfl ⟨(c_ BK270.out 0).trans rfl,(c_ BK270.out 1).trans rfl⟩ (fun hHeld=>?_)
    generalize wc.drew = w14 at HO_0 HO_271001 BK270 BK271 HK HB hHeld ⊢
    refine pureK 0 (some 34) ?_
    refine pureK 2 (some 10) ?_
    refine take_ (i:=1) (N:=some 35) (v:=?_) (a':=?_) #[true,true,true,false,false] rfl rfl (by kernel_rfl) (fun _ _ _ h=>h) (Or.inl ⟨by rfl,?_⟩) hHeld ?_ ?_
    rotate_left
    ·rintro w' ⟨s0,s1⟩
     go_simp
     with_reducible rfl
    rotate_left
    ·simp only [Act.put,s1_,s2_,s3_,i64_w,i32_w]
     rfl
    refine one_ (i:=3) (N:=none) #[true,true,true,true,false] rfl rfl (by kernel_rfl) (by decide) (fun K hK=>?_)
    have hs15 : w14.cell? ⟨gb271,0,none⟩ = some (.string (⟨#[]⟩ : ByteArray)):=(c_ BK271.out 0).trans rfl
    have hfs15:=f_ BK271.out 0
    have hns15_0:=NB270_271.out
    have hms15_0:=NB271_270.out
    have hs16 : w14.cell? ⟨gb271,1,none⟩ = some (.slice none 0 0):=(c_ BK271.out 1).trans rfl
    have hfs16:=f_ BK271.out 1
    have hns16_0:=NB270_271.out
    have hms16_0:=NB271_270.out
    refine skip_ (w1:=?_) (by rfl) rfl ?_ ?_
    rotate_left
    ·go_simp
     rfl
    refine hK.out _ _ ⟨((cell_far (p:=⟨gb271,_,none⟩) NB270_271.out _).trans (((cell_far (p:=⟨gb271,_,none⟩) NB270_271.out _).trans (hHeld.1)))),((cell_far (p:=⟨gb271,_,none⟩) NB270_271.out _).trans (((cell_far (p:=⟨gb271,_,none⟩) NB270_271.out _).trans (hHeld.2))))⟩ (fun hHeld=>?_)
    clear hK K
    refine pureK 4 (some 12) ?_
    refine done_ (by kernel_rfl) ?_
    try go_wp2
    refine bodyPost_ret (results_list (rs:=[.tmp 10,.cell 11 25,.tmp 12]) rfl (by simp) (.tmp (.cell gb271 25 #[.string a1_0,.slice Ao7 l1_1.length co7] (0,0) _ rfl (by (with_reducible repeat first|apply b1_|apply b2_|apply b3_);refine blk_put (cs:=#[.string a1_0,.slice none 0 0]) ?_ 1 _ rfl;(with_reducible repeat first|apply b1_|apply b2_|apply b3_);refine blk_put (cs:=#[.string (⟨#[]⟩ : ByteArray),.slice none 0 0]) ?_ 0 _ rfl;(with_reducible repeat first|apply b1_|apply b2_|apply b3_);exact BK271.out) Tryz.underlying25 rfl (by kernel_rfl) (.tmp .nil)))) rfl ?_
    exact ⟨_,_,eqs,by (with_reducible repeat (first|apply Kd.Q_alloc|apply Kd.Q_drewN|apply Kd.Q_drew));exact Kd.Q_mono (Kd.Q_far (p:=⟨gb271,1,none⟩) (Kd.Q_far (p:=⟨gb271,0,none⟩) (Kd.Q_types HO_0.out BK271.out (by decide)) (fun _ hk=>hk.2) (.string a1_0)) (fun _ hk=>hk.2) (.slice Ao7 l1_1.length co7)) (fun _ hk=>hk.1),by (with_reducible repeat (first|apply Kd.R_alloc|apply Kd.R_drewN|apply Kd.R_drew));exact Kd.R_mono (Kd.R_far (p:=⟨gb271,1,none⟩) (Kd.R_far (p:=⟨gb271,0,none⟩) (Kd.R_types HO_271001.out BK271.out (by decide)) (fun _ hk=>hk.2) (.string a1_0)) (fun _ hk=>hk.2) (.slice Ao7 l1_1.length co7)) (fun _ hk=>hk.1),puN HB.out GE270.out GE271.out,by repeat (first|(with_reducible first|exact HK.out|apply Kept.alloc|apply Kept.drewN|apply Kept.drew|refine Kept.setCell ?_ (.inr GW270.out) _|refine Kept.setCell ?_ (.inr GW271.out) _)|exact HK.out)⟩
   ·replace c13:=Bool.eq_false_iff.mpr c13
    subst c13
    replace H:=ifn H
    by_cases c17 : (wrap64 (a2 + (a3.size : Int))) ≤ (a1_0.size : Int)
    ·rw [if_pos c17] at H
     have c17b0 : decide ((wrap64 (a2 + (a3.size : Int))) ≤ (a1_0.size : Int)) = true:=decide_eq_true c17
     clear c17
     simp only [Option.some.injEq,Prod.mk.injEq] at H
     obtain ⟨rfl,rfl,rfl,rfl⟩:=H
     try go_wp2
     have n0_:=m_ (Kd.Q_drew HO_0.out)
     have n1_:=m_ (Kd.R_drew HO_271001.out)
     have n2_:=m_ (b2_ BK270.out)
     have n3_:=m_ (b2_ BK271.out)
     have n4_:=m_ (Kept.drew HK.out)
     have n5_:=m_ (l3_ HB.out)
     clear HO_0
     clear HO_271001
     clear BK270
     clear BK271
     clear HK
     clear HB
     have HO_0:=n0_
     have HO_271001:=n1_
     have BK270:=n2_
     have BK271:=n3_
     have HK:=n4_
     have HB:=n5_
     clear n0_ n1_ n2_ n3_ n4_ n5_
     refine start_ (n:=5) (S:=fun w'=>w'.cell? ⟨gb270,0,none⟩ = some (.string a1_0) ∧ w'.cell? ⟨gb270,1,none⟩ = some (.slice Ao7 l1_1.length co7)) (ds:=[]) #[false,false,false,false,false] (by kernel_rfl) rfl rfl ⟨(c_ BK270.out 0).trans rfl,(c_ BK270.out 1).trans rfl⟩ (fun hHeld=>?_)
     generalize wc.drew = w18 at HO_0 HO_271001 BK270 BK271 HK HB hHeld ⊢
     refine pureK 0 (some 42) ?_
     refine pureK 2 (some 10) ?_
     refine take_ (i:=1) (N:=some 43) (v:=?_) (a':=?_) #[true,true,true,false,false] rfl rfl (by kernel_rfl) (fun _ _ _ h=>h) (Or.inl ⟨by rfl,?_⟩) hHeld ?_ ?_
     rotate_left
     ·rintro w' ⟨s0,s1⟩
      go_simp
      with_reducible rfl
     rotate_left
     ·simp only [Act.put,s1_,s2_,s3_,i64_w,i32_w]
      rfl
     refine one_ (i:=3) (N:=none) #[true,true,true,true,false] rfl rfl (by kernel_rfl) (by decide) (fun K hK=>?_)
     have hs19 : w18.cell? ⟨gb271,0,none⟩ = some (.string (⟨#[]⟩ : ByteArray)):=(c_ BK271.out 0).trans rfl
     have hfs19:=f_ BK271.out 0
     have hns19_0:=NB270_271.out
     have hms19_0:=NB271_270.out
     have hs20 : w18.cell? ⟨gb271,1,none⟩ = some (.slice none 0 0):=(c_ BK271.out 1).trans rfl
     have hfs20:=f_ BK271.out 1
     have hns20_0:=NB270_271.out
     have hms20_0:=NB271_270.out
     refine skip_ (w1:=?_) (by rfl) rfl ?_ ?_
     rotate_left
     ·go_simp
      rfl
     refine hK.out _ _ ⟨((cell_far (p:=⟨gb271,_,none⟩) NB270_271.out _).trans (((cell_far (p:=⟨gb271,_,none⟩) NB270_271.out _).trans (hHeld.1)))),((cell_far (p:=⟨gb271,_,none⟩) NB270_271.out _).trans (((cell_far (p:=⟨gb271,_,none⟩) NB270_271.out _).trans (hHeld.2))))⟩ (fun hHeld=>?_)
     clear hK K
     refine pureK 4 (some 12) ?_
     refine done_ (by kernel_rfl) ?_
     try go_wp2
     refine bodyPost_ret (results_list (rs:=[.tmp 10,.cell 11 25,.tmp 12]) rfl (by simp) (.tmp (.cell gb271 25 #[.string a1_0,.slice Ao7 l1_1.length co7] (0,0) _ rfl (by (with_reducible repeat first|apply b1_|apply b2_|apply b3_);refine blk_put (cs:=#[.string a1_0,.slice none 0 0]) ?_ 1 _ rfl;(with_reducible repeat first|apply b1_|apply b2_|apply b3_);refine blk_put (cs:=#[.string (⟨#[]⟩ : ByteArray),.slice none 0 0]) ?_ 0 _ rfl;(with_reducible repeat first|apply b1_|apply b2_|apply b3_);exact BK271.out) Tryz.underlying25 rfl (by kernel_rfl) (.tmp .nil)))) rfl ?_
     exact ⟨_,_,eqs,by (with_reducible repeat (first|apply Kd.Q_alloc|apply Kd.Q_drewN|apply Kd.Q_drew));exact Kd.Q_mono (Kd.Q_far (p:=⟨gb271,1,none⟩) (Kd.Q_far (p:=⟨gb271,0,none⟩) (Kd.Q_types HO_0.out BK271.out (by decide)) (fun _ hk=>hk.2) (.string a1_0)) (fun _ hk=>hk.2) (.slice Ao7 l1_1.length co7)) (fun _ hk=>hk.1),by (with_reducible repeat (first|apply Kd.R_alloc|apply Kd.R_drewN|apply Kd.R_drew));exact Kd.R_mono (Kd.R_far (p:=⟨gb271,1,none⟩) (Kd.R_far (p:=⟨gb271,0,none⟩) (Kd.R_types HO_271001.out BK271.out (by decide)) (fun _ hk=>hk.2) (.string a1_0)) (fun _ hk=>hk.2) (.slice Ao7 l1_1.length co7)) (fun _ hk=>hk.1),puN HB.out GE270.out GE271.out,by repeat (first|(with_reducible first|exact HK.out|apply Kept.alloc|apply Kept.drewN|apply Kept.drew|refine Kept.setCell ?_ (.inr GW270.out) _|refine Kept.setCell ?_ (.inr GW271.out) _)|exact HK.out)⟩
    ·rw [if_neg c17] at H
     have c17b0 : decide ((wrap64 (a2 + (a3.size : Int))) ≤ (a1_0.size : Int)) = false:=decide_eq_false c17
     clear c17
     obtain ⟨ji21,hji21⟩ : ∃ j_ : Int,(wrap64 ((a1_0.size : Int) - a2)) = j_:=⟨_,rfl⟩
     replace H : (if 0 ≤ (ji21) then (if (ji21) ≤ (a3.size : Int) then (if a1_0.size + (a3.size - ((ji21) : Int).toNat) ≤ 9223372036854775807 then ((spec_l11Done.f kj5 a1_0 l1_1).bind fun t272=>((spec_l2Pieces.f kj5 (a1_0 ++ (a3.extract ((ji21) : Int).toNat a3.size))).bind fun t273=>((some (([] : List (S31)) : List (S31))).bind fun y276=>(if y276.length + l1_1.length < 5864062014805 then (spec_l11Put.l0 kj5 l0 a4 (a1_0 ++ (a3.extract ((ji21) : Int).toNat a3.size)) t272 t273 (l1_1.length : Int) (a1_0 ++ (a3.extract ((ji21) : Int).toNat a3.size)) (y276 ++ l1_1)) else (none))))) else (none)) else (none)) else (none)) = some (r1,r2,r3,r4):=by first|(rw [hji21] at H;exact H)|(simp only [hji21] at H ⊢;exact H)
     have hji21w : (IntKind.i64.wrap ((a1_0.size : Int) - a2)) = ji21:=(i64_w _).trans hji21
     by_cases c22 : 0 ≤ (ji21)
     rotate_left
     ·rw [if_neg c22] at H
      exact absurd H (by simp)
     rw [if_pos c22] at H
     have c22b0:=eq_true c22
     have c22b1:=decide_eq_true c22
     clear c22
     by_cases c23 : (ji21) ≤ (a3.size : Int)
     rotate_left
     ·rw [if_neg c23] at H
      exact absurd H (by simp)
     rw [if_pos c23] at H
     have c23b0:=eq_true c23
     have c23b1:=decide_eq_true c23
     clear c23
     by_cases c24 : a1_0.size + (a3.size - ((ji21) : Int).toNat) ≤ 9223372036854775807
     rotate_left
     ·rw [if_neg c24] at H
      exact absurd H (by simp)
     rw [if_pos c24] at H
     have c24b0:=eq_true c24
     have c24b1:=decide_eq_true c24
     try have c24b2 : (9223372036854775807 < a1_0.size + (a3.size - ((ji21) : Int).toNat)) = False:=eq_false (Nat.not_lt.2 c24)
     clear c24
     replace H:=Option.bind_eq_some_iff.mp H
     obtain ⟨t272,A250,H⟩:=H
     have A25:=m_ A250
     clear A250
     replace H:=Option.bind_eq_some_iff.mp H
     obtain ⟨t273,A260,H⟩:=H
     have A26:=m_ A260
     clear A260
     obtain ⟨y276,hy276⟩ : ∃ y_ : List (S31),y_ = (([] : List (S31))):=⟨_,rfl⟩
     replace H : (if y276.length + l1_1.length < 5864062014805 then (spec_l11Put.l0 kj5 l0 a4 (a1_0 ++ (a3.extract ((ji21) : Int).toNat a3.size)) t272 t273 (l1_1.length : Int) (a1_0 ++ (a3.extract ((ji21) : Int).toNat a3.size)) (y276 ++ l1_1)) else (none)) = some (r1,r2,r3,r4):=by first|(rw [hy276];with_reducible exact H)|(have H2_:=(Option.bind_some _ _).symm.trans H;rw [hy276];with_reducible exact H2_)|(have H2_:=(Option.bind_some _ _).symm.trans H;with_reducible exact H2_)|with_reducible exact H|(rw [hy276];exact H)|exact H
     have Ny276:=m_ hy276
     clear hy276
     by_cases c27 : y276.length + l1_1.length < 5864062014805
     rotate_left
     ·rw [if_neg c27] at H
      exact absurd H (by simp)
     rw [if_pos c27] at H
     have LMc27:=m_ c27
     clear c27
     obtain ⟨y279,hy279⟩ : ∃ y_ : List (S31),y_ = (y276 ++ l1_1):=⟨_,rfl⟩
     replace H : (spec_l11Put.l0 kj5 l0 a4 (a1_0 ++ (a3.extract ((ji21) : Int).toNat a3.size)) t272 t273 (l1_1.length : Int) (a1_0 ++ (a3.extract ((ji21) : Int).toNat a3.size)) y279) = some (r1,r2,r3,r4):=by first|(rw [hy279];with_reducible exact H)|(have H2_:=(Option.bind_some _ _).symm.trans H;rw [hy279];with_reducible exact H2_)|(have H2_:=(Option.bind_some _ _).symm.trans H;with_reducible exact H2_)|with_reducible exact H|(rw [hy279];exact H)|exact H
     have Ny279:=m_ hy279
     clear hy279
     have H':=m_ H
     clear H
     try go_wp2
     have n0_:=m_ (Kd.Q_drew HO_0.out)
     have n1_:=m_ (Kd.R_drew HO_271001.out)
     have n2_:=m_ (b2_ BK270.out)
     have n3_:=m_ (b2_ BK271.out)
     have n4_:=m_ (Kept.drew HK.out)
     have n5_:=m_ (l3_ HB.out)
     clear HO_0
     clear HO_271001
     clear BK270
     clear BK271
     clear HK
     clear HB
     have HO_0:=n0_
     have HO_271001:=n1_
     have BK270:=n2_
     have BK271:=n3_
     have HK:=n4_
     have HB:=n5_
     clear n0_ n1_ n2_ n3_ n4_ n5_
     refine start_ (n:=9) (S:=fun w'=>w'.cell? ⟨gb270,0,none⟩ = some (.string a1_0) ∧ w'.cell? ⟨gb270,1,none⟩ = some (.slice Ao7 l1_1.length co7)) (ds:=[]) #[false,false,false,false,false,false,false,false,false] (by kernel_rfl) rfl rfl ⟨(c_ BK270.out 0).trans rfl,(c_ BK270.out 1).trans rfl⟩ (fun hHeld=>?_);refine with_tabW spec_l11Put.tab6 spec_l11Put.bits6 (fun HT_ HW_=>?_)
     generalize wc.drew = w28 at HO_0 HO_271001 BK270 BK271 HK HB hHeld ⊢
     refine pureA 0 (some 44) HT_.out ?_
     refine pureA 2 (some 46) HT_.out ?_
     refine pureA 3 (some 47) HT_.out ?_
     refine pureA 4 (some 48) HT_.out ?_
     refine pureA 5 (some 49) HT_.out ?_
     refine pureA 6 (some 50) HT_.out ?_
     refine takeA 1 (some 45) rfl rfl HT_.out HW_.out hHeld ?_ (by rintro w' ⟨s0,s1⟩;go_simp;with_reducible rfl)
     refine pureA 7 (some 51) HT_.out ?_
     refine pureA 8 (some 14) HT_.out ?_
     refine done_ (done_of HT_.out (by kernel_rfl)) ?_
     have hnb29:=NB270_271.out
     have hnc29:=NB271_270.out
     have hcz30_0 : w28.cell? ⟨gb270,0,none⟩ = some (.string a1_0):=(c_ BK270.out 0).trans rfl
     have hcz30_1 : w28.cell? ⟨gb270,1,none⟩ = some (.slice Ao7 l1_1.length co7):=(c_ BK270.out 1).trans rfl
     have hfz30_0:=f_ BK270.out 0
     have hfz30_1:=f_ BK270.out 1
     try go_wp2_with (first|((with_reducible refine gate_callee (f:=58) rfl ?_);refine goesL_ (some 53) rfl rfl Tryz.func58 (by kernel_rfl) rfl #[.agg #[.string a1_0,.slice Ao7 l1_1.length co7]] rfl lens ?_;(with_reducible refine (spec_l11Done.calls kj5 a1_0 _ _ l1_1 t272 _ ?side1 ?side2 A25.out).mono ?_);(case side1=>exact puC (Kd.R_reads' HO_271001.out).2.2);(case side2=>exact (Kd.R_reads' HO_271001.out).2.1);rintro e w31 ⟨rfl,hb⟩;refine ⟨_,rfl,?_⟩;have n0_:=m_ (Kd.Q_below (puQ HO_0.out) hb);have n1_:=m_ (Kd.R_below (puR HO_271001.out) hb);have n2_:=m_ (blk_below (g:=gb270) (o:=.cells #[.string a1_0,.slice Ao7 l1_1.length co7] 25 (0,0)) (puB BK270.out) hb);have n3_:=m_ (blk_below (g:=gb271) (o:=.cells #[.string (⟨#[]⟩ : ByteArray),.slice none 0 0] 25 (0,0)) (puB BK271.out) hb);have n4_:=m_ (Kept.below (S:=(fun k_=>P0_ k_ ∨ P1_1_ k_)) (by repeat (first|(with_reducible first|exact HK.out|apply Kept.alloc|apply Kept.drewN|apply Kept.drew|refine Kept.setCell ?_ (.inr GW270.out) _|refine Kept.setCell ?_ (.inr GW271.out) _)|exact HK.out)) hb);have n5_:=m_ (l5_ (puN HB.out GE270.out GE271.out) hb);revert n0_ n1_ n2_ n3_ n4_ n5_;clear HO_0 HO_271001 BK270 BK271 HK HB;intro HO_0 HO_271001 BK270 BK271 HK HB;(try clear hb);(try clear hb2);(try clear hk);(try clear hi))|((with_reducible refine gate_callee (f:=46) rfl ?_);refine goesL_ (some 55) rfl rfl Tryz.func46 (by kernel_rfl) rfl #[.string (a1_0 ++ (a3.extract ((ji21) : Int).toNat a3.size))] rfl (by (try simp only [List.map_toArray,List.map_cons,List.map_nil]);first|done|(simp only [hji21];rfl)|rfl|(simp only [List.length_drop,List.length_take];rfl)) ?_;(with_reducible refine (spec_l2Pieces.calls kj5 (a1_0 ++ (a3.extract ((ji21) : Int).toNat a3.size)) t273 _ A26.out).mono ?_);rintro e w32 ⟨v274,rfl,ho0,hb⟩;refine ⟨_,rfl,?_⟩;have n0_:=m_ (Kd.Q_below (puQ HO_0.out) hb);have n1_:=m_ (Kd.R_below (puR HO_271001.out) hb);have n2_:=m_ (Kd.R_lower (Kd.R_newM (M:=fun k_=>((P0_ k_ ∨ P1_1_ k_) ∨ w.heap.size ≤ k_)) ho0 (by first|exact HK.out.1|exact (show Kept w _ (fun k_=>P0_ k_ ∨ P1_1_ k_) from by repeat (first|(with_reducible first|exact HK.out|apply Kept.alloc|apply Kept.drewN|apply Kept.drew|refine Kept.setCell ?_ (.inr GW270.out) _|refine Kept.setCell ?_ (.inr GW271.out) _)|exact HK.out)).1) (fun k_ h_=>.inr h_)) (l6_ (puN HB.out GE270.out GE271.out)));have n3_:=m_ (blk_below (g:=gb270) (o:=.cells #[.string a1_0,.slice Ao7 l1_1.length co7] 25 (0,0)) (puB BK270.out) hb);have n4_:=m_ (blk_below (g:=gb271) (o:=.cells #[.string (⟨#[]⟩ : ByteArray),.slice none 0 0] 25 (0,0)) (puB BK271.out) hb);have n5_:=m_ (Kept.below (S:=(fun k_=>P0_ k_ ∨ P1_1_ k_)) (by repeat (first|(with_reducible first|exact HK.out|apply Kept.alloc|apply Kept.drewN|apply Kept.drew|refine Kept.setCell ?_ (.inr GW270.out) _|refine Kept.setCell ?_ (.inr GW271.out) _)|exact HK.out)) hb);have n6_:=m_ (l5_ (puN HB.out GE270.out GE271.out) hb);revert n0_ n1_ n2_ n3_ n4_ n5_ n6_;clear HO_0 HO_271001 BK270 BK271 HK HB;intro HO_0 HO_271001 HO275 BK270 BK271 HK HB;(try clear hb);(try clear hb2);(try clear hk);(try clear hi);(try clear ho0))|((with_reducible refine gate_dst (N:=57) rfl ?_);(try (refine gate_guard (by rfl) ?_;dsimp only));refine Kd.R_lit k31 _ 31 ?hg (N:=57) ?hd (xs:=([] : List (S31))) (inner:=[]) (ok:=fun _=>True) (okp:=fun _=>True) ?hr ?hp (fun _ hk=>hk) trivial (Below.refl _ _) (Nat.le_refl _) (by simp) ?_;(case hd=>rfl);(case hg=>rfl);(case hr=>first|(go_simp;done)|(go_simp;rfl));(case hp=>exact (Reps.none _ _));intro v277 w33 ho34 hb hg_ hnew_;clear hg_ hnew_;(first|rw [← Ny276.out] at ho34|(simp only [Int.reduceToNat] at ho34;rw [← Ny276.out] at ho34));have n0_:=m_ (Kd.Q_below (puQ HO_0.out) hb);have n1_:=m_ (Kd.R_elder' (puR HO_271001.out) (Kd.R_base ho34) hb);have n2_:=m_ (Kd.R_below (puR HO275.out) hb);have n3_:=m_ (Kd.R_lower (Kd.R_new' (Kd.R_newM (M:=fun k_=>((P0_ k_ ∨ P1_1_ k_) ∨ w.heap.size ≤ k_)) ho34 (by first|exact HK.out.1|exact (show Kept w _ (fun k_=>P0_ k_ ∨ P1_1_ k_) from by repeat (first|(with_reducible first|exact HK.out|apply Kept.alloc|apply Kept.drewN|apply Kept.drew|refine Kept.setCell ?_ (.inr GW270.out) _|refine Kept.setCell ?_ (.inr GW271.out) _)|exact HK.out)).1) (fun k_ h_=>.inr h_)) (Kd.R_lt (puR HO_271001.out))) (l6_ (puN HB.out GE270.out GE271.out)));have n4_:=m_ (blk_below (g:=gb270) (o:=.cells #[.string a1_0,.slice Ao7 l1_1.length co7] 25 (0,0)) (puB BK270.out) hb);have n5_:=m_ (blk_below (g:=gb271) (o:=.cells #[.string (⟨#[]⟩ : ByteArray),.slice none 0 0] 25 (0,0)) (puB BK271.out) hb);have n6_:=m_ (Kept.below (S:=(fun k_=>P0_ k_ ∨ P1_1_ k_)) (by repeat (first|(with_reducible first|exact HK.out|apply Kept.alloc|apply Kept.drewN|apply Kept.drew|refine Kept.setCell ?_ (.inr GW270.out) _|refine Kept.setCell ?_ (.inr GW271.out) _)|exact HK.out)) hb);have n7_:=m_ (l5_ (puN HB.out GE270.out GE271.out) hb);revert n0_ n1_ n2_ n3_ n4_ n5_ n6_ n7_;clear HO_0 HO_271001 HO275 BK270 BK271 HK HB;intro HO_0 HO_271001 HO275 HO278 BK270 BK271 HK HB;clear hb ho34;have hcz35_0 : w33.cell? ⟨gb270,0,none⟩ = some (.string a1_0):=(c_ BK270.out 0).trans rfl;have hcz35_1 : w33.cell? ⟨gb270,1,none⟩ = some (.slice Ao7 l1_1.length co7):=(c_ BK270.out 1).trans rfl;have hfz35_0:=f_ BK270.out 0;have hfz35_1:=f_ BK270.out 1)|((with_reducible refine gate_builtin (b:=.append) (xs:=#[.tmp 57,.tmp 59]) rfl ?_);(try (refine gate_guard (by rfl) ?_;dsimp only));at_builtin;refine Kd.R_append_rows k31 (w0:=w0) w0.heap.size rfl (.tmp 57) (.tmp 59) 23 31 (.agg #[(.int .i64 0),(.string ⟨#[]⟩)]) 24 rfl Tryz.underlying23 info31 rfl (by decide) (by omega) v277 y276 l1_1 _ _ _ (fun k_=>((P0_ k_ ∨ P1_1_ k_) ∨ w.heap.size ≤ k_) ∧ some k_ ≠ (.slice Ao7 l1_1.length co7 : Value).ownBlock) (fun _=>False) rfl rfl ?aO ?aR (fun _ _ h=>h) (fun _ h=>h.elim) ?aF ?aB ?aS ?aL ?_;(case aR=>exact puC (Kd.R_reads' HO_271001.out).2.2);(case aB=>exact (puN HB.out GE270.out GE271.out));(case aF=>exact (fun k_ hk=>⟨(.inr (Nat.le_trans (by first|exact HK.out.1|exact (show Kept w _ (fun k_=>P0_ k_ ∨ P1_1_ k_) from by repeat (first|(with_reducible first|exact HK.out|apply Kept.alloc|apply Kept.drewN|apply Kept.drew|refine Kept.setCell ?_ (.inr GW270.out) _|refine Kept.setCell ?_ (.inr GW271.out) _)|exact HK.out)).1) hk)),Kd.fresh' (Kd.R_lt (puR HO_271001.out)) k_ hk⟩));(case aO=>exact (by (with_reducible repeat (first|apply Kd.R_alloc|apply Kd.R_drewN|apply Kd.R_drew));exact Kd.R_mono HO278.out (fun _ hk=>⟨hk.1.1,hk.2⟩)));(case aS=>exact (l6_ (puN HB.out GE270.out GE271.out)));(case aL=>have:=LMc27.out;omega);intro v280 w36 ho hb hg hat;rw [← Ny279.out] at ho;have n0_:=m_ (Kd.Q_over' (puQ HO_0.out) (Kd.R_typed (puR HO278.out)) (by decide) hg);have n1_:=m_ (Kd.R_after (ok:=(fun k_=>((P0_ k_ ∨ P1_1_ k_) ∨ w.heap.size ≤ k_))) (puR HO_271001.out) hg hat);have n2_:=m_ (blk_grown (g:=gb270) (o:=.cells #[.string a1_0,.slice Ao7 l1_1.length co7] 25 (0,0)) (puB BK270.out) hg (Kd.R_ne HO278.out BK270.out (by decide)));have n3_:=m_ (blk_grown (g:=gb271) (o:=.cells #[.string (⟨#[]⟩ : ByteArray),.slice none 0 0] 25 (0,0)) (puB BK271.out) hg (Kd.R_ne HO278.out BK271.out (by decide)));have n4_:=m_ (Kd.R_over' (puR HO275.out) (Kd.R_typed (puR HO278.out)) (by decide) hg);have n5_:=m_ (hb);have n6_:=m_ (Kept.of_grown (S:=(fun k_=>P0_ k_ ∨ P1_1_ k_)) hg (by repeat (first|(with_reducible first|exact HK.out|apply Kept.alloc|apply Kept.drewN|apply Kept.drew|refine Kept.setCell ?_ (.inr GW270.out) _|refine Kept.setCell ?_ (.inr GW271.out) _)|exact HK.out)) (fun k_ e_=>(HO278.out.1 k_ e_).1.1));have n7_:=m_ (ho);revert n0_ n1_ n2_ n3_ n4_ n5_ n6_ n7_;clear HO_0 HO_271001 BK270 BK271 HO275 HB HK HO278;intro HO_0 HO_271001 BK270 BK271 HO275 HB HK HO281;clear ho hb hg hat;obtain ⟨Ao37,co37,eo37⟩:=Kd.R_slice HO281.out;subst eo37)|((with_reducible refine gate_dst (N:=17) rfl ?_);(try (refine gate_guard (by rfl) ?_;dsimp only));refine box_event ?hg (N:=17) ?hd (cs:=#[.string (⟨#[]⟩ : ByteArray),.slice none 0 0]) (t:=25) ?hr ?_;(case hd=>rfl);(case hg=>rfl);(case hr=>first|(go_simp;done)|(go_simp;rfl));intro gb282 hg w38 hbox hb;have n0_:=m_ (Kd.Q_below (puQ HO_0.out) hb);have n1_:=m_ (Kd.R_below (puR HO_271001.out) hb);have n2_:=m_ (Kd.R_below (puR HO275.out) hb);have n3_:=m_ (Kd.R_below (puR HO281.out) hb);have n4_:=m_ (blk_below (g:=gb270) (o:=.cells #[.string a1_0,.slice Ao7 l1_1.length co7] 25 (0,0)) (puB BK270.out) hb);have n5_:=m_ (blk_below (g:=gb271) (o:=.cells #[.string (⟨#[]⟩ : ByteArray),.slice none 0 0] 25 (0,0)) (puB BK271.out) hb);have n6_:=m_ (Kept.below (S:=(fun k_=>P0_ k_ ∨ P1_1_ k_)) (by repeat (first|(with_reducible first|exact HK.out|apply Kept.alloc|apply Kept.drewN|apply Kept.drew|refine Kept.setCell ?_ (.inr GW270.out) _|refine Kept.setCell ?_ (.inr GW271.out) _)|exact HK.out)) hb);have n7_:=m_ (l5_ (puN HB.out GE270.out GE271.out) hb);have n8_:=m_ (hbox);have n9_:=m_ ((by rw [hg];exact (by first|exact HK.out.1|exact (show Kept w _ (fun k_=>P0_ k_ ∨ P1_1_ k_) from by repeat (first|(with_reducible first|exact HK.out|apply Kept.alloc|apply Kept.drewN|apply Kept.drew|refine Kept.setCell ?_ (.inr GW270.out) _|refine Kept.setCell ?_ (.inr GW271.out) _)|exact HK.out)).1) : w.heap.size ≤ gb282));have n10_:=m_ ((by rw [hg];exact (l6_ (puN HB.out GE270.out GE271.out)) : w0.heap.size ≤ gb282));have n11_:=m_ ((by rw [hg];exact Nat.ne_of_lt (blk_lt (g:=gb270) (o:=.cells #[.string a1_0,.slice Ao7 l1_1.length co7] 25 (0,0)) (puB BK270.out)) : gb270 ≠ gb282));have n12_:=m_ n11_.out.symm;have n13_:=m_ ((by rw [hg];exact Nat.ne_of_lt (blk_lt (g:=gb271) (o:=.cells #[.string (⟨#[]⟩ : ByteArray),.slice none 0 0] 25 (0,0)) (puB BK271.out)) : gb271 ≠ gb282));have n14_:=m_ n13_.out.symm;revert n0_ n1_ n2_ n3_ n4_ n5_ n6_ n7_ n8_ n9_ n10_ n11_ n12_ n13_ n14_;clear HO_0 HO_271001 HO275 HO281 BK270 BK271 HK HB;intro HO_0 HO_271001 HO275 HO281 BK270 BK271 HK HB BK282 GW282 GE282 NB270_282 NB282_270 NB271_282 NB282_271;clear hb hbox hg;have hnb39:=NB282_270.out;have hnc39:=NB270_282.out;have hnb40:=NB282_271.out;have hnc40:=NB271_282.out;have hcz41_0 : w38.cell? ⟨gb282,0,none⟩ = some (.string (⟨#[]⟩ : ByteArray)):=(c_ BK282.out 0).trans rfl;have hcz41_1 : w38.cell? ⟨gb282,1,none⟩ = some (.slice none 0 0):=(c_ BK282.out 1).trans rfl;have hfz41_0:=f_ BK282.out 0;have hfz41_1:=f_ BK282.out 1;have hcz42_0 : w38.cell? ⟨gb270,0,none⟩ = some (.string a1_0):=(c_ BK270.out 0).trans rfl;have hcz42_1 : w38.cell? ⟨gb270,1,none⟩ = some (.slice Ao7 l1_1.length co7):=(c_ BK270.out 1).trans rfl;have hfz42_0:=f_ BK270.out 0;have hfz42_1:=f_ BK270.out 1))
     go_loopg [0,15,18] kj5 (fun kq v0 v15 v18 w'=>∃ (x0_2 : List (S79)) (x15_2 : Int) (x18_2 : Int) (x283001_2 : List (S31)) (u283001 : Value),v15 = .int .i64 x15_2 ∧ v18 = .int .i64 x18_2 ∧ Aside0 (spec_l11Put.l0 kq x0_2 a4 (a1_0 ++ (a3.extract ((ji21) : Int).toNat a3.size)) x15_2 t273 x18_2 (a1_0 ++ (a3.extract ((ji21) : Int).toNat a3.size)) x283001_2 = some (r1,r2,r3,r4)) ∧ Aside0 (kq ≤ kj5) ∧ Aside0 (Kd.Q k79 79 w' w0.heap.size (fun k_=>((P0_ k_ ∨ P1_1_ k_) ∨ w.heap.size ≤ k_)) v0 x0_2) ∧ Aside0 (Kd.R k51 51 w' w0.heap.size (fun k_=>((P0_ k_ ∨ P1_1_ k_) ∨ w.heap.size ≤ k_)) v274 t273) ∧ Aside0 (Kd.R k31 31 w' w0.heap.size (fun k_=>((P0_ k_ ∨ P1_1_ k_) ∨ w.heap.size ≤ k_) ∧ some k_ ≠ (u283001 : Value).ownBlock) (.slice Ao7 l1_1.length co7) l1_1) ∧ Aside0 (Kd.R k31 31 w' w0.heap.size (fun k_=>((P0_ k_ ∨ P1_1_ k_) ∨ w.heap.size ≤ k_) ∧ some k_ ≠ ((.slice Ao7 l1_1.length co7) : Value).ownBlock) u283001 x283001_2) ∧ Aside0 (w'.heap[gb270]? = some (.cells #[.string a1_0,(.slice Ao7 l1_1.length co7)] 25 (0,0))) ∧ Aside0 (w'.heap[gb271]? = some (.cells #[.string (⟨#[]⟩ : ByteArray),(.slice none 0 0)] 25 (0,0))) ∧ Aside0 (w'.heap[gb282]? = some (.cells #[.string (a1_0 ++ (a3.extract ((ji21) : Int).toNat a3.size)),u283001] 25 (0,0))) ∧ Aside0 (Kept w w' (fun k_=>P0_ k_ ∨ P1_1_ k_)) ∧ Aside0 (Below w0.heap.size w0 w'))
     case atStart=>exact ⟨(l0),(t272),((l1_1.length : Int)),(y279),(.slice Ao37 y279.length co37),(by first|rfl|(simp;done)|(simp [*];done)),(by first|rfl|(simp;done)|(simp [*];done)),H',⟨Nat.le_refl _⟩,⟨by (with_reducible repeat (first|apply Kd.Q_alloc|apply Kd.Q_drewN|apply Kd.Q_drew));exact Kd.Q_mono (Kd.Q_far (p:=⟨gb282,1,none⟩) (Kd.Q_far (p:=⟨gb282,0,none⟩) (Kd.Q_types HO_0.out BK282.out (by decide)) (fun _ hk=>hk.2) (.string (a1_0 ++ (a3.extract ((ji21) : Int).toNat a3.size)))) (fun _ hk=>hk.2) (.slice Ao37 y279.length co37)) (fun _ hk=>hk.1)⟩,⟨by (with_reducible repeat (first|apply Kd.R_alloc|apply Kd.R_drewN|apply Kd.R_drew));exact Kd.R_mono (Kd.R_far (p:=⟨gb282,1,none⟩) (Kd.R_far (p:=⟨gb282,0,none⟩) (Kd.R_types HO275.out BK282.out (by decide)) (fun _ hk=>hk.2) (.string (a1_0 ++ (a3.extract ((ji21) : Int).toNat a3.size)))) (fun _ hk=>hk.2) (.slice Ao37 y279.length co37)) (fun _ hk=>hk.1.1)⟩,⟨by (with_reducible repeat (first|apply Kd.R_alloc|apply Kd.R_drewN|apply Kd.R_drew));exact Kd.R_mono (Kd.R_far (p:=⟨gb282,1,none⟩) (Kd.R_far (p:=⟨gb282,0,none⟩) (Kd.R_types HO_271001.out BK282.out (by decide)) (fun _ hk=>hk.2) (.string (a1_0 ++ (a3.extract ((ji21) : Int).toNat a3.size)))) (fun _ hk=>hk.2) (.slice Ao37 y279.length co37)) (fun _ hk=>⟨hk.1.1,hk.1.2⟩)⟩,⟨by (with_reducible repeat (first|apply Kd.R_alloc|apply Kd.R_drewN|apply Kd.R_drew));exact Kd.R_mono (Kd.R_far (p:=⟨gb282,1,none⟩) (Kd.R_far (p:=⟨gb282,0,none⟩) (Kd.R_types HO281.out BK282.out (by decide)) (fun _ hk=>hk.2) (.string (a1_0 ++ (a3.extract ((ji21) : Int).toNat a3.size)))) (fun _ hk=>hk.2) (.slice Ao37 y279.length co37)) (fun _ hk=>⟨hk.1.1,hk.1.2⟩)⟩,⟨by (with_reducible repeat first|apply b1_|apply b2_|apply b3_);refine b4_ ?_ NB270_282.out _;(with_reducible repeat first|apply b1_|apply b2_|apply b3_);refine b4_ ?_ NB270_282.out _;(with_reducible repeat first|apply b1_|apply b2_|apply b3_);exact BK270.out⟩,⟨by (with_reducible repeat first|apply b1_|apply b2_|apply b3_);refine b4_ ?_ NB271_282.out _;(with_reducible repeat first|apply b1_|apply b2_|apply b3_);refine b4_ ?_ NB271_282.out _;(with_reducible repeat first|apply b1_|apply b2_|apply b3_);exact BK271.out⟩,⟨by (with_reducible repeat first|apply b1_|apply b2_|apply b3_);refine blk_put (cs:=#[.string (a1_0 ++ (a3.extract ((ji21) : Int).toNat a3.size)),.slice none 0 0]) ?_ 1 _ rfl;(with_reducible repeat first|apply b1_|apply b2_|apply b3_);refine blk_put (cs:=#[.string (⟨#[]⟩ : ByteArray),.slice none 0 0]) ?_ 0 _ rfl;(with_reducible repeat first|apply b1_|apply b2_|apply b3_);exact BK282.out⟩,⟨by repeat (first|(with_reducible first|exact HK.out|apply Kept.alloc|apply Kept.drewN|apply Kept.drew|refine Kept.setCell ?_ (.inr GW270.out) _|refine Kept.setCell ?_ (.inr GW271.out) _|refine Kept.setCell ?_ (.inr GW282.out) _)|exact HK.out)⟩,⟨puO HB.out GE270.out GE271.out GE282.out⟩⟩
     case round =>
      clear H'
      try clear c1
      try clear c2
      try clear p2
      try clear c3
      try clear c4
      try clear c5
      try clear p6
      try clear c10
      try clear c12
      try clear c12b0
      try clear c13
      try clear c17
      try clear c17b0
      try clear c22
      try clear c22b0
      try clear c22b1
      try clear c23
      try clear c23b0
      try clear c23b1
      try clear c24
      try clear c24b0
      try clear c24b1
      try clear c24b2
      try clear c27
      try clear c29
      try clear c39
      try clear c40
      try clear hcz11_0
      try clear hcz11_1
      try clear hcz30_0
      try clear hcz30_1
      try clear hcz35_0
      try clear hcz35_1
      try clear hcz41_0
      try clear hcz41_1
      try clear hcz42_0
      try clear hcz42_1
      try clear hfz11_0
      try clear hfz11_1
      try clear hfz30_0
      try clear hfz30_1
      try clear hfz35_0
      try clear hfz35_1
      try clear hfz41_0
      try clear hfz41_1
      try clear hfz42_0
      try clear hfz42_1
      try clear p2
      try clear p6
      obtain ⟨x0_2,x15_2,x18_2,x283001_2,u283001,rfl,rfl,HA,HK2,HO_0,HO_16,HO_271001,HO_283001,BK270,BK271,BK282,HK,HB⟩:=hrel
      cases gk with
      | zero => exact absurd HA.out (by simp [spec_l11Put.l0])
      | succ k2 =>
       have H:=HA.out
       clear HA
       simp only [spec_l11Put.l0] at H
       by_cases c43 : x18_2 < (t273.length : Int)
       ·rw [if_pos c43] at H
        have c43b0 : decide (x18_2 < (t273.length : Int)) = true:=decide_eq_true c43
        clear c43
        by_cases c44 : 0 ≤ x18_2
        rotate_left
        ·rw [if_neg c44] at H
         exact absurd H (by simp)
        rw [if_pos c44] at H
        have c44b0 : decide (0 ≤ x18_2) = true:=decide_eq_true c44
        clear c44
        by_cases c45 : 0 ≤ x15_2
        rotate_left
        ·rw [if_neg c45] at H
         exact absurd H (by simp)
        rw [if_pos c45] at H
        have c45b0:=eq_true c45
        have c45b1:=decide_eq_true c45
        clear c45
        by_cases c46 : x15_2 ≤ (wrap64 (x15_2 + ((rd_T51 t273 x18_2).f0)))
        rotate_left
        ·rw [if_neg c46] at H
         exact absurd H (by simp)
        rw [if_pos c46] at H
        have c46b0:=eq_true c46
        have c46b1:=decide_eq_true c46
        clear c46
        by_cases c47 : (wrap64 (x15_2 + ((rd_T51 t273 x18_2).f0))) ≤ ((a1_0 ++ (a3.extract ((ji21) : Int).toNat a3.size)).size : Int)
        rotate_left
        ·rw [if_neg c47] at H
         exact absurd H (by simp)
        rw [if_pos c47] at H
        have c47b0:=eq_true c47
        have c47b1:=decide_eq_true c47
        try have hsl_c47:=fun (w_ : World)=>Go.run_slice_string (P:=Tryz.prog) w_ 9 (a1_0 ++ (a3.extract ((ji21) : Int).toNat a3.size)) .i64 .i64 (x15_2) ((wrap64 (x15_2 + ((rd_T51 t273 x18_2).f0)))) Tryz.underlying9 (of_eq_true c45b0) (of_eq_true c46b0) (of_eq_true c47b0)
        clear c47
        by_cases c48 : a4 = true
        ·subst c48
         replace H:=ifp H rfl
         replace H:=Option.bind_eq_some_iff.mp H
         obtain ⟨⟨t285,t288⟩,A490,H⟩:=H
         replace H : (if x283001_2.length < 5864062014805 then (spec_l11Put.l0 k2 t285 true (a1_0 ++ (a3.extract ((ji21) : Int).toNat a3.size)) (wrap64 (x15_2 + ((rd_T51 t273 x18_2).f0))) t273 (wrap64 (x18_2 + 1)) (a1_0 ++ (a3.extract ((ji21) : Int).toNat a3.size)) (x283001_2 ++ [(⟨(rd_T51 t273 x18_2).f0,t288⟩ : S31)])) else (none)) = some (r1,r2,r3,r4):=H
         have A49:=m_ A490
         clear A490
         by_cases c50 : x283001_2.length < 5864062014805
         rotate_left
         ·rw [if_neg c50] at H
          exact absurd H (by simp)
         rw [if_pos c50] at H
         have LMc50:=m_ c50
         clear c50
         obtain ⟨y290,hy290⟩ : ∃ y_ : List (S31),y_ = (x283001_2 ++ [(⟨(rd_T51 t273 x18_2).f0,t288⟩ : S31)]):=⟨_,rfl⟩
         replace H : (spec_l11Put.l0 k2 t285 true (a1_0 ++ (a3.extract ((ji21) : Int).toNat a3.size)) (wrap64 (x15_2 + ((rd_T51 t273 x18_2).f0))) t273 (wrap64 (x18_2 + 1)) (a1_0 ++ (a3.extract ((ji21) : Int).toNat a3.size)) y290) = some (r1,r2,r3,r4):=by first|(rw [hy290];with_reducible exact H)|(have H2_:=(Option.bind_some _ _).symm.trans H;rw [hy290];with_reducible exact H2_)|(have H2_:=(Option.bind_some _ _).symm.trans H;with_reducible exact H2_)|with_reducible exact H|(rw [hy290];exact H)|exact H
         have Ny290:=m_ hy290
         clear hy290
         have H':=m_ H
         clear H
         obtain ⟨Ao51,co51,eo51⟩:=Kd.R_slice HO_16.out
         subst eo51
         have p283 : 0 ≤ (x18_2 : Int):=of_decide_eq_true asm
         have q283 : x18_2 < (t273.length : Int):=of_decide_eq_true asm
         obtain ⟨ad283,e283,hx283_0,hx283_1,hx283_2,hx283_3⟩:=at_T51 (Kd.R_reads' HO_16.out).2.2 x18_2 p283 q283
         cases e283
         replace p283:=eq_true p283
         replace q283:=eq_true q283
         have p284 : 0 ≤ (x18_2 : Int):=of_decide_eq_true asm
         have q284 : x18_2 < (t273.length : Int):=of_decide_eq_true asm
         obtain ⟨ad284,e284,hx284_0,hx284_1,hx284_2,hx284_3⟩:=at_T51 (Kd.R_reads' HO_16.out).2.2 x18_2 p284 q284
         obtain rfl : ad283 = ad284:=(by injection e284)
         replace p284:=eq_true p284
         replace q284:=eq_true q284
         obtain ⟨Ao52,co52,eo52,_⟩:=Kd.Q_slice HO_0.out
         subst eo52
         try go_wp2_with (first|((with_reducible refine gate_callee (f:=59) rfl ?_);refine goesL_ (some 89) rfl rfl Tryz.func59 (by kernel_rfl) rfl #[.slice Ao52 x0_2.length co52,.agg #[.int .i64 ((rd_T51 t273 x18_2).f0),.bool ((rd_T51 t273 x18_2).f1),.int .i64 ((rd_T51 t273 x18_2).f2.f0),.int .i64 ((rd_T51 t273 x18_2).f2.f1)],.string ((a1_0 ++ (a3.extract ((ji21) : Int).toNat a3.size)).extract (x15_2 : Int).toNat ((wrap64 (x15_2 + ((rd_T51 t273 x18_2).f0))) : Int).toNat)] rfl (by (try simp only [List.map_toArray,List.map_cons,List.map_nil]);first|done|(simp only [hji21];rfl)|rfl|(simp only [List.length_drop,List.length_take];rfl)) ?_;(with_reducible refine (spec_l3PieceOut.calls k2 (fun k_=>some k_ = (.slice Ao52 x0_2.length co52 : Value).ownBlock) (.slice Ao52 x0_2.length co52) x0_2 ((rd_T51 t273 x18_2).f0) ((rd_T51 t273 x18_2).f1) ((rd_T51 t273 x18_2).f2.f0) ((rd_T51 t273 x18_2).f2.f1) ((a1_0 ++ (a3.extract ((ji21) : Int).toNat a3.size)).extract (x15_2 : Int).toNat ((wrap64 (x15_2 + ((rd_T51 t273 x18_2).f0))) : Int).toNat) t285 t288 w0 _ ?side1 ?side2 A49.out).mono ?_);(case side1=>exact puO HB.out GE270.out GE271.out GE282.out);(case side2=>exact Kd.Q_tight rfl HO_0.out);rintro e w53 ⟨v286,rfl,ho0,hb,hkp⟩;refine ⟨_,rfl,?_⟩;have n0_:=m_ (Kd.R_mono (ok':=fun k_=>((P0_ k_ ∨ P1_1_ k_) ∨ w.heap.size ≤ k_)) (Kd.R_keptB ((Kd.R_apart' HO_16.out (Kd.Q_typed HO_0.out) (by decide))) hkp (fun k_ hk_ hs_=>(hk_.2) hs_)) (fun k_ hk_=>hk_.1.1));have n1_:=m_ (Kd.R_mono (ok':=fun k_=>((P0_ k_ ∨ P1_1_ k_) ∨ w.heap.size ≤ k_) ∧ some k_ ≠ (u283001 : Value).ownBlock) (Kd.R_keptB ((Kd.R_apart' HO_271001.out (Kd.Q_typed HO_0.out) (by decide))) hkp (fun k_ hk_ hs_=>(hk_.2) hs_)) (fun k_ hk_=>⟨hk_.1.1.1,hk_.1.1.2⟩));have n2_:=m_ (Kd.R_mono (ok':=fun k_=>((P0_ k_ ∨ P1_1_ k_) ∨ w.heap.size ≤ k_) ∧ some k_ ≠ (.slice Ao7 l1_1.length co7 : Value).ownBlock) (Kd.R_keptB ((Kd.R_apart' HO_283001.out (Kd.Q_typed HO_0.out) (by decide))) hkp (fun k_ hk_ hs_=>(hk_.2) hs_)) (fun k_ hk_=>⟨hk_.1.1.1,hk_.1.1.2⟩));have n3_:=m_ (blk_kept (puB BK270.out) hkp (fun hs_=>(fun e_=>(Kd.Q_ne HO_0.out BK270.out (by decide)) e_) hs_));have n4_:=m_ (blk_kept (puB BK271.out) hkp (fun hs_=>(fun e_=>(Kd.Q_ne HO_0.out BK271.out (by decide)) e_) hs_));have n5_:=m_ (blk_kept (puB BK282.out) hkp (fun hs_=>(fun e_=>(Kd.Q_ne HO_0.out BK282.out (by decide)) e_) hs_));have n6_:=m_ (Kd.Q_mono (ok':=fun k_=>((P0_ k_ ∨ P1_1_ k_) ∨ w.heap.size ≤ k_)) ho0 (fun k_ hk_=>Or.elim hk_ (fun hs_=>(HO_0.out.1 k_ (hs_).symm)) (fun hn_=>(.inr (Nat.le_trans (by first|exact HK.out.1|exact (show Kept w _ (fun k_=>P0_ k_ ∨ P1_1_ k_) from by repeat (first|(with_reducible first|exact HK.out|apply Kept.alloc|apply Kept.drewN|apply Kept.drew|refine Kept.setCell ?_ (.inr GW270.out) _|refine Kept.setCell ?_ (.inr GW271.out) _|refine Kept.setCell ?_ (.inr GW282.out) _)|exact HK.out)).1) hn_)))));have n7_:=m_ (Kept.then_ (S:=(fun k_=>P0_ k_ ∨ P1_1_ k_)) (by repeat (first|(with_reducible first|exact HK.out|apply Kept.alloc|apply Kept.drewN|apply Kept.drew|refine Kept.setCell ?_ (.inr GW270.out) _|refine Kept.setCell ?_ (.inr GW271.out) _|refine Kept.setCell ?_ (.inr GW282.out) _)|exact HK.out)) hkp (fun k_ hs_=>(fun e_=>(HO_0.out.1 k_ e_.symm)) hs_));have n8_:=m_ (hb);revert n0_ n1_ n2_ n3_ n4_ n5_ n6_ n7_ n8_;clear HO_16 HO_271001 HO_283001 BK270 BK271 BK282 HK HB HO_0;intro HO_16 HO_271001 HO_283001 BK270 BK271 BK282 HO287 HK HB;(try clear hb);(try clear hkp);(try clear ho0)))
         have n0_:=m_ (Kd.R_drew HO_16.out)
         have n1_:=m_ (Kd.R_drew HO_271001.out)
         have n2_:=m_ (Kd.R_drew HO_283001.out)
         have n3_:=m_ (Kd.Q_drew HO287.out)
         have n4_:=m_ (b2_ BK270.out)
         have n5_:=m_ (b2_ BK271.out)
         have n6_:=m_ (b2_ BK282.out)
         have n7_:=m_ (Kept.drew HK.out)
         have n8_:=m_ (l3_ HB.out)
         clear HO_16
         clear HO_271001
         clear HO_283001
         clear HO287
         clear BK270
         clear BK271
         clear BK282
         clear HK
         clear HB
         have HO_16:=n0_
         have HO_271001:=n1_
         have HO_283001:=n2_
         have HO287:=n3_
         have BK270:=n4_
         have BK271:=n5_
         have BK282:=n6_
         have HK:=n7_
         have HB:=n8_
         clear n0_ n1_ n2_ n3_ n4_ n5_ n6_ n7_ n8_
         have p289 : 0 ≤ (x18_2 : Int):=of_decide_eq_true asm
         have q289 : x18_2 < (t273.length : Int):=of_decide_eq_true asm
         obtain ⟨ad289,e289,hx289_0,hx289_1,hx289_2,hx289_3⟩:=at_T51 (Kd.R_reads' HO_16.out).2.2 x18_2 p289 q289
         obtain rfl : ad283 = ad289:=(by injection e289)
         replace p289:=eq_true p289
         replace q289:=eq_true q289
         refine start_ (n:=13) (S:=fun w'=>w'.cell? ⟨gb282,0,none⟩ = some (.string (a1_0 ++ (a3.extract ((ji21) : Int).toNat a3.size))) ∧ w'.cell? ⟨gb282,1,none⟩ = some (u283001) ∧ w'.cell? (ad283.add ((x18_2).toNat * 4)) = some (.int .i64 ((rd_T51 t273 x18_2).f0)) ∧ w'.cell? ⟨(ad283.add ((x18_2).toNat * 4)).block,(ad283.add ((x18_2).toNat * 4)).off + 1,none⟩ = some (.bool ((rd_T51 t273 x18_2).f1)) ∧ w'.cell? ⟨(ad283.add ((x18_2).toNat * 4)).block,(ad283.add ((x18_2).toNat * 4)).off + 2,none⟩ = some (.int .i64 ((rd_T51 t273 x18_2).f2.f0)) ∧ w'.cell? ⟨(ad283.add ((x18_2).toNat * 4)).block,(ad283.add ((x18_2).toNat * 4)).off + 3,none⟩ = some (.int .i64 ((rd_T51 t273 x18_2).f2.f1))) (ds:=[10,12]) #[false,false,false,false,false,false,false,false,false,false,false,false,false] (by kernel_rfl) rfl rfl ⟨(c_ BK282.out 0).trans rfl,(c_ BK282.out 1).trans rfl,hx289_0,hx289_1,hx289_2,hx289_3⟩ (fun hHeld=>?_);refine with_tabW spec_l11Put.tab18 spec_l11Put.bits18 (fun HT_ HW_=>?_)
         generalize w53.drew = w54 at HO_16 HO_271001 HO_283001 HO287 BK270 BK271 BK282 HK HB hx289_0 hx289_1 hx289_2 hx289_3 hHeld ⊢
         refine pureA 0 (some 99) HT_.out ?_
         refine pureA 2 (some 101) HT_.out ?_
         refine pureA 3 (some 102) HT_.out ?_
         refine pureA 4 (some 103) HT_.out ?_
         refine pureA 5 (some 104) HT_.out ?_
         refine pureA 7 (some 106) HT_.out ?_
         refine takeA 1 (some 100) rfl rfl HT_.out HW_.out hHeld ?_ (by rintro w' ⟨s0,s1,s2,s3,s4,s5⟩;go_simp;with_reducible rfl)
         refine takeA 6 (some 105) rfl rfl HT_.out HW_.out hHeld ?_ (by rintro w' ⟨s0,s1,s2,s3,s4,s5⟩;go_simp;with_reducible rfl)
         refine pureA 8 (some 107) HT_.out ?_
         refine one_ (i:=9) (N:=some 108) #[true,true,true,true,true,true,true,true,true,true,false,false,false] rfl rfl (one_of HT_.out (by kernel_rfl)) (by decide) (fun K hK=>?_)
         refine value_ (w1:=?_) (v:=?_) (by rfl) rfl ?_ ?_
         rotate_left 2
         ·go_simp
          constructor
          ·rfl
          ·rfl
         refine hK.out _ _ ⟨(c_ (b3_ BK282.out _) 0).trans rfl,(c_ (b3_ BK282.out _) 1).trans rfl,(World.cell?_alloc_lt _ _ _ (World.block_lt_of_cell? _ _ (hHeld.2.2.1))).trans (hHeld.2.2.1),(World.cell?_alloc_lt _ _ _ (World.block_lt_of_cell? _ _ (hHeld.2.2.2.1))).trans (hHeld.2.2.2.1),(World.cell?_alloc_lt _ _ _ (World.block_lt_of_cell? _ _ (hHeld.2.2.2.2.1))).trans (hHeld.2.2.2.2.1),(World.cell?_alloc_lt _ _ _ (World.block_lt_of_cell? _ _ (hHeld.2.2.2.2.2))).trans (hHeld.2.2.2.2.2)⟩ (fun hHeld=>?_)
         clear hK K
         refine norm_ (a':=?_) ?_ ?_
         rotate_left
         ·show Act.put _ (some 108) _ = _
          simp only [Act.put,s1_,s2_,s3_,i64_w,i32_w]
          rfl
         refine last_ (i:=10) (N:=some 109) #[true,true,true,true,true,true,true,true,true,true,true,false,false] rfl rfl (one_of HT_.out (by kernel_rfl)) (by decide) (fun K hK=>?_)
         refine Kd.R_append_step k31 (w0:=w0) w0.heap.size (by rfl) (.tmp 100) (.tmp 108) 23 31 (.agg #[(.int .i64 0),(.string ⟨#[]⟩)]) 24 rfl Tryz.underlying23 info31 rfl (by decide) (by omega) u283001 x283001_2 (⟨(rd_T51 t273 x18_2).f0,t288⟩ : S31) [.int .i64 ((rd_T51 t273 x18_2).f0),.string t288] (fun k_=>((P0_ k_ ∨ P1_1_ k_) ∨ w.heap.size ≤ k_) ∧ some k_ ≠ (.slice Ao7 l1_1.length co7 : Value).ownBlock) (fun _=>False) rfl rfl ?aP (fun _ hk=>hk.elim) ?aF ?aO ?aB ?aS ?aL ?_
         (case aP=>exact k31_mkM _ _ _ (⟨(rd_T51 t273 x18_2).f0,t288⟩ : S31))
         (case aB=>exact (puO HB.out GE270.out GE271.out GE282.out))
         (case aF=>exact (fun k_ hk=>⟨(.inr (Nat.le_trans (by first|exact HK.out.1|exact (show Kept w _ (fun k_=>P0_ k_ ∨ P1_1_ k_) from by repeat (first|(with_reducible first|exact HK.out|apply Kept.alloc|apply Kept.drewN|apply Kept.drew|refine Kept.setCell ?_ (.inr GW270.out) _|refine Kept.setCell ?_ (.inr GW271.out) _|refine Kept.setCell ?_ (.inr GW282.out) _)|exact HK.out)).1) hk)),Kd.fresh' (Kd.R_lt (puR HO_271001.out)) k_ hk⟩))
         (case aO=>exact (puR HO_283001.out))
         (case aS=>exact (l6_ (puO HB.out GE270.out GE271.out GE282.out)))
         (case aL=>have:=LMc50.out;omega)
         intro v291 w55 ho hb hg hat
         rw [← Ny290.out] at ho
         have n0_:=m_ (Kd.R_over' (puR HO_16.out) (Kd.R_typed (puR HO_283001.out)) (by decide) hg)
         have n1_:=m_ (Kd.R_after (ok:=(fun k_=>((P0_ k_ ∨ P1_1_ k_) ∨ w.heap.size ≤ k_))) (puR HO_271001.out) hg hat)
         have n2_:=m_ (blk_grown (g:=gb270) (o:=.cells #[.string a1_0,.slice Ao7 l1_1.length co7] 25 (0,0)) (puB BK270.out) hg (Kd.R_ne HO_283001.out BK270.out (by decide)))
         have n3_:=m_ (blk_grown (g:=gb271) (o:=.cells #[.string (⟨#[]⟩ : ByteArray),.slice none 0 0] 25 (0,0)) (puB BK271.out) hg (Kd.R_ne HO_283001.out BK271.out (by decide)))
         have n4_:=m_ (blk_grown (g:=gb282) (o:=.cells #[.string (a1_0 ++ (a3.extract ((ji21) : Int).toNat a3.size)),u283001] 25 (0,0)) (puB BK282.out) hg (Kd.R_ne HO_283001.out BK282.out (by decide)))
         have n5_:=m_ (Kd.Q_over' (puQ HO287.out) (Kd.R_typed (puR HO_283001.out)) (by decide) hg)
         have n6_:=m_ (hb)
         have n7_:=m_ (Kept.of_grown (S:=(fun k_=>P0_ k_ ∨ P1_1_ k_)) hg (by repeat (first|(with_reducible first|exact HK.out|apply Kept.alloc|apply Kept.drewN|apply Kept.drew|refine Kept.setCell ?_ (.inr GW270.out) _|refine Kept.setCell ?_ (.inr GW271.out) _|refine Kept.setCell ?_ (.inr GW282.out) _)|exact HK.out)) (fun k_ e_=>(HO_283001.out.1 k_ e_).1))
         have n8_:=m_ (ho)
         clear HO_16
         clear HO_271001
         clear BK270
         clear BK271
         clear BK282
         clear HO287
         clear HB
         clear HK
         clear HO_283001
         have HO_16:=n0_
         have HO_271001:=n1_
         have BK270:=n2_
         have BK271:=n3_
         have BK282:=n4_
         have HO287:=n5_
         have HB:=n6_
         have HK:=n7_
         have HO292:=n8_
         clear n0_ n1_ n2_ n3_ n4_ n5_ n6_ n7_ n8_
         clear ho hb hg hat
         obtain ⟨Ao56,co56,eo56⟩:=Kd.R_slice HO292.out
         (first|subst eo56|(injection eo56 with f1_ f2_ f3_;have f4_:=f1_.symm;have f5_:=f3_.symm;clear f1_ f2_ f3_;subst f4_;subst f5_))
         refine hK.out _ _ ?_
         clear hK K
         refine norm_ (a':=?_) ?_ ?_
         rotate_left
         ·show Act.put _ (some 109) _ = _
          simp only [Act.put,s1_,s2_,s3_,i64_w,i32_w]
          rfl
         refine pureA 11 (some 110) HT_.out ?_
         refine last_ (i:=12) (N:=none) #[true,true,true,true,true,true,true,true,true,true,true,true,true] rfl rfl (one_of HT_.out (by kernel_rfl)) (by decide) (fun K hK=>?_)
         have hs57 : w55.cell? ⟨gb282,1,none⟩ = some (u283001):=(c_ BK282.out 1).trans rfl
         have hfs57:=f_ BK282.out 1
         have hns57_0:=NB270_282.out
         have hns57_1:=NB271_282.out
         have hms57_0:=NB282_270.out
         have hms57_1:=NB282_271.out
         refine skip_ (w1:=?_) (by rfl) rfl ?_ ?_
         rotate_left
         ·go_simp
          rfl
         refine hK.out _ _ ?_
         clear hK K
         refine done_ (done_of HT_.out (by kernel_rfl)) ?_
         have p293 : 0 ≤ (x18_2 : Int):=of_decide_eq_true asm
         have q293 : x18_2 < (t273.length : Int):=of_decide_eq_true asm
         obtain ⟨ad293,e293,hx293_0,hx293_1,hx293_2,hx293_3⟩:=at_T51 (Kd.R_reads' HO_16.out).2.2 x18_2 p293 q293
         obtain rfl : ad283 = ad293:=(by injection e293)
         have hn293_0 : ad283.block ≠ gb282:=Kd.own_blk (Kd.R_ne HO_16.out BK282.out (by decide))
         replace hx293_0:=(cell_far (p:=⟨gb282,1,none⟩) (by first|(rw [add_block];exact hn293_0)|(show (Addr.add _ _).block ≠ _;rw [add_block];exact hn293_0)|exact hn293_0) (.slice Ao56 y290.length co56)).trans hx293_0
         replace hx293_1:=(cell_far (p:=⟨gb282,1,none⟩) (by first|(rw [add_block];exact hn293_0)|(show (Addr.add _ _).block ≠ _;rw [add_block];exact hn293_0)|exact hn293_0) (.slice Ao56 y290.length co56)).trans hx293_1
         replace hx293_2:=(cell_far (p:=⟨gb282,1,none⟩) (by first|(rw [add_block];exact hn293_0)|(show (Addr.add _ _).block ≠ _;rw [add_block];exact hn293_0)|exact hn293_0) (.slice Ao56 y290.length co56)).trans hx293_2
         replace hx293_3:=(cell_far (p:=⟨gb282,1,none⟩) (by first|(rw [add_block];exact hn293_0)|(show (Addr.add _ _).block ≠ _;rw [add_block];exact hn293_0)|exact hn293_0) (.slice Ao56 y290.length co56)).trans hx293_3
         clear hn293_0
         replace p293:=eq_true p293
         replace q293:=eq_true q293
         try go_wp2
         go_roundg k2
         case measure=>have:=HJ5.out;have:=HK2.out;omega
         case rel=>exact ⟨(t285),(wrap64 (x15_2 + ((rd_T51 t273 x18_2).f0))),(wrap64 (x18_2 + 1)),(y290),(.slice Ao56 y290.length co56),(by first|rfl|(simp;done)|(simp [*];done)),(by first|rfl|(simp;done)|(simp [*];done)),H',⟨by have:=HJ5.out;have:=HK2.out;omega⟩,⟨by (with_reducible repeat (first|apply Kd.Q_alloc|apply Kd.Q_drewN|apply Kd.Q_drew));exact Kd.Q_mono (Kd.Q_far (p:=⟨gb282,1,none⟩) (Kd.Q_types HO287.out BK282.out (by decide)) (fun _ hk=>hk.2) (.slice Ao56 y290.length co56)) (fun _ hk=>hk.1)⟩,⟨by (with_reducible repeat (first|apply Kd.R_alloc|apply Kd.R_drewN|apply Kd.R_drew));exact Kd.R_mono (Kd.R_far (p:=⟨gb282,1,none⟩) (Kd.R_types HO_16.out BK282.out (by decide)) (fun _ hk=>hk.2) (.slice Ao56 y290.length co56)) (fun _ hk=>hk.1)⟩,⟨by (with_reducible repeat (first|apply Kd.R_alloc|apply Kd.R_drewN|apply Kd.R_drew));exact Kd.R_mono (Kd.R_far (p:=⟨gb282,1,none⟩) (Kd.R_types HO_271001.out BK282.out (by decide)) (fun _ hk=>hk.2) (.slice Ao56 y290.length co56)) (fun _ hk=>⟨hk.1.1,hk.1.2⟩)⟩,⟨by (with_reducible repeat (first|apply Kd.R_alloc|apply Kd.R_drewN|apply Kd.R_drew));exact Kd.R_mono (Kd.R_far (p:=⟨gb282,1,none⟩) (Kd.R_types HO292.out BK282.out (by decide)) (fun _ hk=>hk.2) (.slice Ao56 y290.length co56)) (fun _ hk=>⟨hk.1.1,hk.1.2⟩)⟩,⟨by (with_reducible repeat first|apply b1_|apply b2_|apply b3_);refine b4_ ?_ NB270_282.out _;(with_reducible repeat first|apply b1_|apply b2_|apply b3_);exact BK270.out⟩,⟨by (with_reducible repeat first|apply b1_|apply b2_|apply b3_);refine b4_ ?_ NB271_282.out _;(with_reducible repeat first|apply b1_|apply b2_|apply b3_);exact BK271.out⟩,⟨by (with_reducible repeat first|apply b1_|apply b2_|apply b3_);refine blk_put (cs:=#[.string (a1_0 ++ (a3.extract ((ji21) : Int).toNat a3.size)),u283001]) ?_ 1 _ rfl;(with_reducible repeat first|apply b1_|apply b2_|apply b3_);exact BK282.out⟩,⟨by repeat (first|(with_reducible first|exact HK.out|apply Kept.alloc|apply Kept.drewN|apply Kept.drew|refine Kept.setCell ?_ (.inr GW270.out) _|refine Kept.setCell ?_ (.inr GW271.out) _|refine Kept.setCell ?_ (.inr GW282.out) _)|exact HK.out)⟩,⟨puO HB.out GE270.out GE271.out GE282.out⟩⟩
        ·replace c48:=Bool.eq_false_iff.mpr c48
         subst c48
         replace H:=ifn H
         replace H:=Option.bind_eq_some_iff.mp H
         obtain ⟨t295,A580,H⟩:=H
         have A58:=m_ A580
         clear A580
         by_cases c59 : x283001_2.length < 5864062014805
         rotate_left
         ·rw [if_neg c59] at H
          exact absurd H (by simp)
         rw [if_pos c59] at H
         have LMc59:=m_ c59
         clear c59
         obtain ⟨y297,hy297⟩ : ∃ y_ : List (S31),y_ = (x283001_2 ++ [(⟨(rd_T51 t273 x18_2).f0,t295⟩ : S31)]):=⟨_,rfl⟩
         replace H : (spec_l11Put.l0 k2 x0_2 false (a1_0 ++ (a3.extract ((ji21) : Int).toNat a3.size)) (wrap64 (x15_2 + ((rd_T51 t273 x18_2).f0))) t273 (wrap64 (x18_2 + 1)) (a1_0 ++ (a3.extract ((ji21) : Int).toNat a3.size)) y297) = some (r1,r2,r3,r4):=by first|(rw [hy297];with_reducible exact H)|(have H2_:=(Option.bind_some _ _).symm.trans H;rw [hy297];with_reducible exact H2_)|(have H2_:=(Option.bind_some _ _).symm.trans H;with_reducible exact H2_)|with_reducible exact H|(rw [hy297];exact H)|exact H
         have Ny297:=m_ hy297
         clear hy297
         have H':=m_ H
         clear H
         obtain ⟨Ao60,co60,eo60⟩:=Kd.R_slice HO_16.out
         subst eo60
         have p283 : 0 ≤ (x18_2 : Int):=of_decide_eq_true asm
         have q283 : x18_2 < (t273.length : Int):=of_decide_eq_true asm
         obtain ⟨ad283,e283,hx283_0,hx283_1,hx283_2,hx283_3⟩:=at_T51 (Kd.R_reads' HO_16.out).2.2 x18_2 p283 q283
         cases e283
         replace p283:=eq_true p283
         replace q283:=eq_true q283
         have p294 : 0 ≤ (x18_2 : Int):=of_decide_eq_true asm
         have q294 : x18_2 < (t273.length : Int):=of_decide_eq_true asm
         obtain ⟨ad294,e294,hx294_0,hx294_1,hx294_2,hx294_3⟩:=at_T51 (Kd.R_reads' HO_16.out).2.2 x18_2 p294 q294
         obtain rfl : ad283 = ad294:=(by injection e294)
         replace p294:=eq_true p294
         replace q294:=eq_true q294
         obtain ⟨Ao61,co61,eo61,_⟩:=Kd.Q_slice HO_0.out
         subst eo61
         try go_wp2_with (first|((with_reducible refine gate_callee (f:=60) rfl ?_);refine goesL_ (some 98) rfl rfl Tryz.func60 (by kernel_rfl) rfl #[.slice Ao61 x0_2.length co61,.agg #[.int .i64 ((rd_T51 t273 x18_2).f0),.bool ((rd_T51 t273 x18_2).f1),.int .i64 ((rd_T51 t273 x18_2).f2.f0),.int .i64 ((rd_T51 t273 x18_2).f2.f1)],.string ((a1_0 ++ (a3.extract ((ji21) : Int).toNat a3.size)).extract (x15_2 : Int).toNat ((wrap64 (x15_2 + ((rd_T51 t273 x18_2).f0))) : Int).toNat)] rfl (by (try simp only [List.map_toArray,List.map_cons,List.map_nil]);first|done|(simp only [hji21];rfl)|rfl|(simp only [List.length_drop,List.length_take];rfl)) ?_;(with_reducible refine (spec_l3PieceIn.calls k2 _ _ x0_2 ((rd_T51 t273 x18_2).f0) ((rd_T51 t273 x18_2).f1) ((rd_T51 t273 x18_2).f2.f0) ((rd_T51 t273 x18_2).f2.f1) ((a1_0 ++ (a3.extract ((ji21) : Int).toNat a3.size)).extract (x15_2 : Int).toNat ((wrap64 (x15_2 + ((rd_T51 t273 x18_2).f0))) : Int).toNat) t295 _ ?side1 ?side2 A58.out).mono ?_);(case side1=>repeat (first|exact (Kd.Q_reads' HO_0.out).2.2|(with_reducible refine Kd.C_alloc ?_ _)|(with_reducible refine Kd.C_drewN ?_ _)|(with_reducible refine Kd.C_drew ?_)));(case side2=>exact (Kd.Q_reads' HO_0.out).2.1);rintro e w62 ⟨rfl,hb⟩;refine ⟨_,rfl,?_⟩;have n0_:=m_ (Kd.Q_below (puQ HO_0.out) hb);have n1_:=m_ (Kd.R_below (puR HO_16.out) hb);have n2_:=m_ (Kd.R_below (puR HO_271001.out) hb);have n3_:=m_ (Kd.R_below (puR HO_283001.out) hb);have n4_:=m_ (blk_below (g:=gb270) (o:=.cells #[.string a1_0,.slice Ao7 l1_1.length co7] 25 (0,0)) (puB BK270.out) hb);have n5_:=m_ (blk_below (g:=gb271) (o:=.cells #[.string (⟨#[]⟩ : ByteArray),.slice none 0 0] 25 (0,0)) (puB BK271.out) hb);have n6_:=m_ (blk_below (g:=gb282) (o:=.cells #[.string (a1_0 ++ (a3.extract ((ji21) : Int).toNat a3.size)),u283001] 25 (0,0)) (puB BK282.out) hb);have n7_:=m_ (Kept.below (S:=(fun k_=>P0_ k_ ∨ P1_1_ k_)) (by repeat (first|(with_reducible first|exact HK.out|apply Kept.alloc|apply Kept.drewN|apply Kept.drew|refine Kept.setCell ?_ (.inr GW270.out) _|refine Kept.setCell ?_ (.inr GW271.out) _|refine Kept.setCell ?_ (.inr GW282.out) _)|exact HK.out)) hb);have n8_:=m_ (l5_ (puO HB.out GE270.out GE271.out GE282.out) hb);revert n0_ n1_ n2_ n3_ n4_ n5_ n6_ n7_ n8_;clear HO_0 HO_16 HO_271001 HO_283001 BK270 BK271 BK282 HK HB;intro HO_0 HO_16 HO_271001 HO_283001 BK270 BK271 BK282 HK HB;(try clear hb);(try clear hb2);(try clear hk);(try clear hi)))
         have n0_:=m_ (Kd.Q_drew HO_0.out)
         have n1_:=m_ (Kd.R_drew HO_16.out)
         have n2_:=m_ (Kd.R_drew HO_271001.out)
         have n3_:=m_ (Kd.R_drew HO_283001.out)
         have n4_:=m_ (b2_ BK270.out)
         have n5_:=m_ (b2_ BK271.out)
         have n6_:=m_ (b2_ BK282.out)
         have n7_:=m_ (Kept.drew HK.out)
         have n8_:=m_ (l3_ HB.out)
         clear HO_0
         clear HO_16
         clear HO_271001
         clear HO_283001
         clear BK270
         clear BK271
         clear BK282
         clear HK
         clear HB
         have HO_0:=n0_
         have HO_16:=n1_
         have HO_271001:=n2_
         have HO_283001:=n3_
         have BK270:=n4_
         have BK271:=n5_
         have BK282:=n6_
         have HK:=n7_
         have HB:=n8_
         clear n0_ n1_ n2_ n3_ n4_ n5_ n6_ n7_ n8_
         have p296 : 0 ≤ (x18_2 : Int):=of_decide_eq_true asm
         have q296 : x18_2 < (t273.length : Int):=of_decide_eq_true asm
         obtain ⟨ad296,e296,hx296_0,hx296_1,hx296_2,hx296_3⟩:=at_T51 (Kd.R_reads' HO_16.out).2.2 x18_2 p296 q296
         obtain rfl : ad283 = ad296:=(by injection e296)
         replace p296:=eq_true p296
         replace q296:=eq_true q296
         refine start_ (n:=13) (S:=fun w'=>w'.cell? ⟨gb282,0,none⟩ = some (.string (a1_0 ++ (a3.extract ((ji21) : Int).toNat a3.size))) ∧ w'.cell? ⟨gb282,1,none⟩ = some (u283001) ∧ w'.cell? (ad283.add ((x18_2).toNat * 4)) = some (.int .i64 ((rd_T51 t273 x18_2).f0)) ∧ w'.cell? ⟨(ad283.add ((x18_2).toNat * 4)).block,(ad283.add ((x18_2).toNat * 4)).off + 1,none⟩ = some (.bool ((rd_T51 t273 x18_2).f1)) ∧ w'.cell? ⟨(ad283.add ((x18_2).toNat * 4)).block,(ad283.add ((x18_2).toNat * 4)).off + 2,none⟩ = some (.int .i64 ((rd_T51 t273 x18_2).f2.f0)) ∧ w'.cell? ⟨(ad283.add ((x18_2).toNat * 4)).block,(ad283.add ((x18_2).toNat * 4)).off + 3,none⟩ = some (.int .i64 ((rd_T51 t273 x18_2).f2.f1))) (ds:=[10,12]) #[false,false,false,false,false,false,false,false,false,false,false,false,false] (by kernel_rfl) rfl rfl ⟨(c_ BK282.out 0).trans rfl,(c_ BK282.out 1).trans rfl,hx296_0,hx296_1,hx296_2,hx296_3⟩ (fun hHeld=>?_);refine with_tabW spec_l11Put.tab18 spec_l11Put.bits18 (fun HT_ HW_=>?_)
         generalize w62.drew = w63 at HO_0 HO_16 HO_271001 HO_283001 BK270 BK271 BK282 HK HB hx296_0 hx296_1 hx296_2 hx296_3 hHeld ⊢
         refine pureA 0 (some 99) HT_.out ?_
         refine pureA 2 (some 101) HT_.out ?_
         refine pureA 3 (some 102) HT_.out ?_
         refine pureA 4 (some 103) HT_.out ?_
         refine pureA 5 (some 104) HT_.out ?_
         refine pureA 7 (some 106) HT_.out ?_
         refine takeA 1 (some 100) rfl rfl HT_.out HW_.out hHeld ?_ (by rintro w' ⟨s0,s1,s2,s3,s4,s5⟩;go_simp;with_reducible rfl)
         refine takeA 6 (some 105) rfl rfl HT_.out HW_.out hHeld ?_ (by rintro w' ⟨s0,s1,s2,s3,s4,s5⟩;go_simp;with_reducible rfl)
         refine pureA 8 (some 107) HT_.out ?_
         refine one_ (i:=9) (N:=some 108) #[true,true,true,true,true,true,true,true,true,true,false,false,false] rfl rfl (one_of HT_.out (by kernel_rfl)) (by decide) (fun K hK=>?_)
         refine value_ (w1:=?_) (v:=?_) (by rfl) rfl ?_ ?_
         rotate_left 2
         ·go_simp
          constructor
          ·rfl
          ·rfl
         refine hK.out _ _ ⟨(c_ (b3_ BK282.out _) 0).trans rfl,(c_ (b3_ BK282.out _) 1).trans rfl,(World.cell?_alloc_lt _ _ _ (World.block_lt_of_cell? _ _ (hHeld.2.2.1))).trans (hHeld.2.2.1),(World.cell?_alloc_lt _ _ _ (World.block_lt_of_cell? _ _ (hHeld.2.2.2.1))).trans (hHeld.2.2.2.1),(World.cell?_alloc_lt _ _ _ (World.block_lt_of_cell? _ _ (hHeld.2.2.2.2.1))).trans (hHeld.2.2.2.2.1),(World.cell?_alloc_lt _ _ _ (World.block_lt_of_cell? _ _ (hHeld.2.2.2.2.2))).trans (hHeld.2.2.2.2.2)⟩ (fun hHeld=>?_)
         clear hK K
         refine norm_ (a':=?_) ?_ ?_
         rotate_left
         ·show Act.put _ (some 108) _ = _
          simp only [Act.put,s1_,s2_,s3_,i64_w,i32_w]
          rfl
         refine last_ (i:=10) (N:=some 109) #[true,true,true,true,true,true,true,true,true,true,true,false,false] rfl rfl (one_of HT_.out (by kernel_rfl)) (by decide) (fun K hK=>?_)
         refine Kd.R_append_step k31 (w0:=w0) w0.heap.size (by rfl) (.tmp 100) (.tmp 108) 23 31 (.agg #[(.int .i64 0),(.string ⟨#[]⟩)]) 24 rfl Tryz.underlying23 info31 rfl (by decide) (by omega) u283001 x283001_2 (⟨(rd_T51 t273 x18_2).f0,t295⟩ : S31) [.int .i64 ((rd_T51 t273 x18_2).f0),.string t295] (fun k_=>((P0_ k_ ∨ P1_1_ k_) ∨ w.heap.size ≤ k_) ∧ some k_ ≠ (.slice Ao7 l1_1.length co7 : Value).ownBlock) (fun _=>False) rfl rfl ?aP (fun _ hk=>hk.elim) ?aF ?aO ?aB ?aS ?aL ?_
         (case aP=>exact k31_mkM _ _ _ (⟨(rd_T51 t273 x18_2).f0,t295⟩ : S31))
         (case aB=>exact (puO HB.out GE270.out GE271.out GE282.out))
         (case aF=>exact (fun k_ hk=>⟨(.inr (Nat.le_trans (by first|exact HK.out.1|exact (show Kept w _ (fun k_=>P0_ k_ ∨ P1_1_ k_) from by repeat (first|(with_reducible first|exact HK.out|apply Kept.alloc|apply Kept.drewN|apply Kept.drew|refine Kept.setCell ?_ (.inr GW270.out) _|refine Kept.setCell ?_ (.inr GW271.out) _|refine Kept.setCell ?_ (.inr GW282.out) _)|exact HK.out)).1) hk)),Kd.fresh' (Kd.R_lt (puR HO_271001.out)) k_ hk⟩))
         (case aO=>exact (puR HO_283001.out))
         (case aS=>exact (l6_ (puO HB.out GE270.out GE271.out GE282.out)))
         (case aL=>have:=LMc59.out;omega)
         intro v298 w64 ho hb hg hat
         rw [← Ny297.out] at ho
         have n0_:=m_ (Kd.Q_over' (puQ HO_0.out) (Kd.R_typed (puR HO_283001.out)) (by decide) hg)
         have n1_:=m_ (Kd.R_over' (puR HO_16.out) (Kd.R_typed (puR HO_283001.out)) (by decide) hg)
         have n2_:=m_ (Kd.R_after (ok:=(fun k_=>((P0_ k_ ∨ P1_1_ k_) ∨ w.heap.size ≤ k_))) (puR HO_271001.out) hg hat)
         have n3_:=m_ (blk_grown (g:=gb270) (o:=.cells #[.string a1_0,.slice Ao7 l1_1.length co7] 25 (0,0)) (puB BK270.out) hg (Kd.R_ne HO_283001.out BK270.out (by decide)))
         have n4_:=m_ (blk_grown (g:=gb271) (o:=.cells #[.string (⟨#[]⟩ : ByteArray),.slice none 0 0] 25 (0,0)) (puB BK271.out) hg (Kd.R_ne HO_283001.out BK271.out (by decide)))
         have n5_:=m_ (blk_grown (g:=gb282) (o:=.cells #[.string (a1_0 ++ (a3.extract ((ji21) : Int).toNat a3.size)),u283001] 25 (0,0)) (puB BK282.out) hg (Kd.R_ne HO_283001.out BK282.out (by decide)))
         have n6_:=m_ (hb)
         have n7_:=m_ (Kept.of_grown (S:=(fun k_=>P0_ k_ ∨ P1_1_ k_)) hg (by repeat (first|(with_reducible first|exact HK.out|apply Kept.alloc|apply Kept.drewN|apply Kept.drew|refine Kept.setCell ?_ (.inr GW270.out) _|refine Kept.setCell ?_ (.inr GW271.out) _|refine Kept.setCell ?_ (.inr GW282.out) _)|exact HK.out)) (fun k_ e_=>(HO_283001.out.1 k_ e_).1))
         have n8_:=m_ (ho)
         clear HO_0
         clear HO_16
         clear HO_271001
         clear BK270
         clear BK271
         clear BK282
         clear HB
         clear HK
         clear HO_283001
         have HO_0:=n0_
         have HO_16:=n1_
         have HO_271001:=n2_
         have BK270:=n3_
         have BK271:=n4_
         have BK282:=n5_
         have HB:=n6_
         have HK:=n7_
         have HO299:=n8_
         clear n0_ n1_ n2_ n3_ n4_ n5_ n6_ n7_ n8_
         clear ho hb hg hat
         obtain ⟨Ao65,co65,eo65⟩:=Kd.R_slice HO299.out
         (first|subst eo65|(injection eo65 with f1_ f2_ f3_;have f4_:=f1_.symm;have f5_:=f3_.symm;clear f1_ f2_ f3_;subst f4_;subst f5_))
         refine hK.out _ _ ?_
         clear hK K
         refine norm_ (a':=?_) ?_ ?_
         rotate_left
         ·show Act.put _ (some 109) _ = _
          simp only [Act.put,s1_,s2_,s3_,i64_w,i32_w]
          rfl
         refine pureA 11 (some 110) HT_.out ?_
         refine last_ (i:=12) (N:=none) #[true,true,true,true,true,true,true,true,true,true,true,true,true] rfl rfl (one_of HT_.out (by kernel_rfl)) (by decide) (fun K hK=>?_)
         have hs66 : w64.cell? ⟨gb282,1,none⟩ = some (u283001):=(c_ BK282.out 1).trans rfl
         have hfs66:=f_ BK282.out 1
         have hns66_0:=NB270_282.out
         have hns66_1:=NB271_282.out
         have hms66_0:=NB282_270.out
         have hms66_1:=NB282_271.out
         refine skip_ (w1:=?_) (by rfl) rfl ?_ ?_
         rotate_left
         ·go_simp
          rfl
         refine hK.out _ _ ?_
         clear hK K
         refine done_ (done_of HT_.out (by kernel_rfl)) ?_
         have p300 : 0 ≤ (x18_2 : Int):=of_decide_eq_true asm
         have q300 : x18_2 < (t273.length : Int):=of_decide_eq_true asm
         obtain ⟨ad300,e300,hx300_0,hx300_1,hx300_2,hx300_3⟩:=at_T51 (Kd.R_reads' HO_16.out).2.2 x18_2 p300 q300
         obtain rfl : ad283 = ad300:=(by injection e300)
         have hn300_0 : ad283.block ≠ gb282:=Kd.own_blk (Kd.R_ne HO_16.out BK282.out (by decide))
         replace hx300_0:=(cell_far (p:=⟨gb282,1,none⟩) (by first|(rw [add_block];exact hn300_0)|(show (Addr.add _ _).block ≠ _;rw [add_block];exact hn300_0)|exact hn300_0) (.slice Ao65 y297.length co65)).trans hx300_0
         replace hx300_1:=(cell_far (p:=⟨gb282,1,none⟩) (by first|(rw [add_block];exact hn300_0)|(show (Addr.add _ _).block ≠ _;rw [add_block];exact hn300_0)|exact hn300_0) (.slice Ao65 y297.length co65)).trans hx300_1
         replace hx300_2:=(cell_far (p:=⟨gb282,1,none⟩) (by first|(rw [add_block];exact hn300_0)|(show (Addr.add _ _).block ≠ _;rw [add_block];exact hn300_0)|exact hn300_0) (.slice Ao65 y297.length co65)).trans hx300_2
         replace hx300_3:=(cell_far (p:=⟨gb282,1,none⟩) (by first|(rw [add_block];exact hn300_0)|(show (Addr.add _ _).block ≠ _;rw [add_block];exact hn300_0)|exact hn300_0) (.slice Ao65 y297.length co65)).trans hx300_3
         clear hn300_0
         replace p300:=eq_true p300
         replace q300:=eq_true q300
         try go_wp2
         go_roundg k2
         case measure=>have:=HJ5.out;have:=HK2.out;omega
         case rel=>exact ⟨(x0_2),(wrap64 (x15_2 + ((rd_T51 t273 x18_2).f0))),(wrap64 (x18_2 + 1)),(y297),(.slice Ao65 y297.length co65),(by first|rfl|(simp;done)|(simp [*];done)),(by first|rfl|(simp;done)|(simp [*];done)),H',⟨by have:=HJ5.out;have:=HK2.out;omega⟩,⟨by (with_reducible repeat (first|apply Kd.Q_alloc|apply Kd.Q_drewN|apply Kd.Q_drew));exact Kd.Q_mono (Kd.Q_far (p:=⟨gb282,1,none⟩) (Kd.Q_types HO_0.out BK282.out (by decide)) (fun _ hk=>hk.2) (.slice Ao65 y297.length co65)) (fun _ hk=>hk.1)⟩,⟨by (with_reducible repeat (first|apply Kd.R_alloc|apply Kd.R_drewN|apply Kd.R_drew));exact Kd.R_mono (Kd.R_far (p:=⟨gb282,1,none⟩) (Kd.R_types HO_16.out BK282.out (by decide)) (fun _ hk=>hk.2) (.slice Ao65 y297.length co65)) (fun _ hk=>hk.1)⟩,⟨by (with_reducible repeat (first|apply Kd.R_alloc|apply Kd.R_drewN|apply Kd.R_drew));exact Kd.R_mono (Kd.R_far (p:=⟨gb282,1,none⟩) (Kd.R_types HO_271001.out BK282.out (by decide)) (fun _ hk=>hk.2) (.slice Ao65 y297.length co65)) (fun _ hk=>⟨hk.1.1,hk.1.2⟩)⟩,⟨by (with_reducible repeat (first|apply Kd.R_alloc|apply Kd.R_drewN|apply Kd.R_drew));exact Kd.R_mono (Kd.R_far (p:=⟨gb282,1,none⟩) (Kd.R_types HO299.out BK282.out (by decide)) (fun _ hk=>hk.2) (.slice Ao65 y297.length co65)) (fun _ hk=>⟨hk.1.1,hk.1.2⟩)⟩,⟨by (with_reducible repeat first|apply b1_|apply b2_|apply b3_);refine b4_ ?_ NB270_282.out _;(with_reducible repeat first|apply b1_|apply b2_|apply b3_);exact BK270.out⟩,⟨by (with_reducible repeat first|apply b1_|apply b2_|apply b3_);refine b4_ ?_ NB271_282.out _;(with_reducible repeat first|apply b1_|apply b2_|apply b3_);exact BK271.out⟩,⟨by (with_reducible repeat first|apply b1_|apply b2_|apply b3_);refine blk_put (cs:=#[.string (a1_0 ++ (a3.extract ((ji21) : Int).toNat a3.size)),u283001]) ?_ 1 _ rfl;(with_reducible repeat first|apply b1_|apply b2_|apply b3_);exact BK282.out⟩,⟨by repeat (first|(with_reducible first|exact HK.out|apply Kept.alloc|apply Kept.drewN|apply Kept.drew|refine Kept.setCell ?_ (.inr GW270.out) _|refine Kept.setCell ?_ (.inr GW271.out) _|refine Kept.setCell ?_ (.inr GW282.out) _)|exact HK.out)⟩,⟨puO HB.out GE270.out GE271.out GE282.out⟩⟩
       ·rw [if_neg c43] at H
        have c43b0 : decide (x18_2 < (t273.length : Int)) = false:=decide_eq_false c43
        clear c43
        simp only [Option.some.injEq,Prod.mk.injEq] at H
        obtain ⟨rfl,rfl,rfl,rfl⟩:=H
        obtain ⟨Ao67,co67,eo67⟩:=Kd.R_slice HO_16.out
        subst eo67
        try go_wp2
        have n0_:=m_ (Kd.Q_drew HO_0.out)
        have n1_:=m_ (Kd.R_drew HO_16.out)
        have n2_:=m_ (Kd.R_drew HO_271001.out)
        have n3_:=m_ (Kd.R_drew HO_283001.out)
        have n4_:=m_ (b2_ BK270.out)
        have n5_:=m_ (b2_ BK271.out)
        have n6_:=m_ (b2_ BK282.out)
        have n7_:=m_ (Kept.drew HK.out)
        have n8_:=m_ (l3_ HB.out)
        clear HO_0
        clear HO_16
        clear HO_271001
        clear HO_283001
        clear BK270
        clear BK271
        clear BK282
        clear HK
        clear HB
        have HO_0:=n0_
        have HO_16:=n1_
        have HO_271001:=n2_
        have HO_283001:=n3_
        have BK270:=n4_
        have BK271:=n5_
        have BK282:=n6_
        have HK:=n7_
        have HB:=n8_
        clear n0_ n1_ n2_ n3_ n4_ n5_ n6_ n7_ n8_
        obtain ⟨Ao70,co70,eo70⟩:=Kd.R_slice HO_283001.out
        (first|subst eo70|(injection eo70 with f1_ f2_ f3_;have f4_:=f1_.symm;have f5_:=f3_.symm;clear f1_ f2_ f3_;subst f4_;subst f5_))
        refine start_ (n:=5) (S:=fun w'=>w'.cell? ⟨gb282,0,none⟩ = some (.string (a1_0 ++ (a3.extract ((ji21) : Int).toNat a3.size))) ∧ w'.cell? ⟨gb282,1,none⟩ = some (.slice Ao70 x283001_2.length co70)) (ds:=[]) #[false,false,false,false,false] (by kernel_rfl) rfl rfl ⟨(c_ BK282.out 0).trans rfl,(c_ BK282.out 1).trans rfl⟩ (fun hHeld=>?_)
        generalize wr.drew = w68 at HO_0 HO_16 HO_271001 HO_283001 BK270 BK271 BK282 HK HB hHeld ⊢
        refine pureK 0 (some 118) ?_
        refine pureK 2 (some 10) ?_
        refine take_ (i:=1) (N:=some 119) (v:=?_) (a':=?_) #[true,true,true,false,false] rfl rfl (by kernel_rfl) (fun _ _ _ h=>h) (Or.inl ⟨by rfl,?_⟩) hHeld ?_ ?_
        rotate_left
        ·rintro w' ⟨s0,s1⟩
         go_simp
         with_reducible rfl
        rotate_left
        ·simp only [Act.put,s1_,s2_,s3_,i64_w,i32_w]
         rfl
        refine one_ (i:=3) (N:=none) #[true,true,true,true,false] rfl rfl (by kernel_rfl) (by decide) (fun K hK=>?_)
        have hs69 : w68.cell? ⟨gb271,0,none⟩ = some (.string (⟨#[]⟩ : ByteArray)):=(c_ BK271.out 0).trans rfl
        have hfs69:=f_ BK271.out 0
        have hns69_0:=NB270_271.out
        have hns69_2:=NB282_271.out
        have hms69_0:=NB271_270.out
        have hms69_2:=NB271_282.out
        have hs71 : w68.cell? ⟨gb271,1,none⟩ = some (.slice none 0 0):=(c_ BK271.out 1).trans rfl
        have hfs71:=f_ BK271.out 1
        have hns71_0:=NB270_271.out
        have hns71_2:=NB282_271.out
        have hms71_0:=NB271_270.out
        have hms71_2:=NB271_282.out
        refine skip_ (w1:=?_) (by rfl) rfl ?_ ?_
        rotate_left
        ·go_simp
         rfl
        refine hK.out _ _ ⟨((cell_far (p:=⟨gb271,_,none⟩) NB282_271.out _).trans (((cell_far (p:=⟨gb271,_,none⟩) NB282_271.out _).trans (hHeld.1)))),((cell_far (p:=⟨gb271,_,none⟩) NB282_271.out _).trans (((cell_far (p:=⟨gb271,_,none⟩) NB282_271.out _).trans (hHeld.2))))⟩ (fun hHeld=>?_)
        clear hK K
        refine pureK 4 (some 12) ?_
        refine done_ (by kernel_rfl) ?_
        try go_wp2
        refine bodyPost_ret (results_list (rs:=[.tmp 10,.cell 11 25,.tmp 12]) rfl (by simp) (.tmp (.cell gb271 25 #[.string (a1_0 ++ (a3.extract ((ji21) : Int).toNat a3.size)),.slice Ao70 x283001_2.length co70] (0,0) _ rfl (by (with_reducible repeat first|apply b1_|apply b2_|apply b3_);refine blk_put (cs:=#[.string (a1_0 ++ (a3.extract ((ji21) : Int).toNat a3.size)),.slice none 0 0]) ?_ 1 _ rfl;(with_reducible repeat first|apply b1_|apply b2_|apply b3_);refine blk_put (cs:=#[.string (⟨#[]⟩ : ByteArray),.slice none 0 0]) ?_ 0 _ rfl;(with_reducible repeat first|apply b1_|apply b2_|apply b3_);exact BK271.out) Tryz.underlying25 rfl (by kernel_rfl) (.tmp .nil)))) rfl ?_
        exact ⟨_,_,by first|rfl|(simp [e1_,e2_] <;> rfl)|(simp only [← hji21];first|rfl|(simp [e1_,e2_] <;> rfl))|(simp [*,e1_,e2_] <;> rfl)|(simp [e1_,e2_,pk_empty1,pk_empty2];done)|(simp [*,e1_,e2_,pk_empty1,pk_empty2];done),by (with_reducible repeat (first|apply Kd.Q_alloc|apply Kd.Q_drewN|apply Kd.Q_drew));exact Kd.Q_mono (Kd.Q_far (p:=⟨gb271,1,none⟩) (Kd.Q_far (p:=⟨gb271,0,none⟩) (Kd.Q_types HO_0.out BK271.out (by decide)) (fun _ hk=>hk.2) (.string (a1_0 ++ (a3.extract ((ji21) : Int).toNat a3.size)))) (fun _ hk=>hk.2) (.slice Ao70 x283001_2.length co70)) (fun _ hk=>hk.1),by (with_reducible repeat (first|apply Kd.R_alloc|apply Kd.R_drewN|apply Kd.R_drew));exact Kd.R_mono (Kd.R_far (p:=⟨gb271,1,none⟩) (Kd.R_far (p:=⟨gb271,0,none⟩) (Kd.R_types HO_283001.out BK271.out (by decide)) (fun _ hk=>hk.2) (.string (a1_0 ++ (a3.extract ((ji21) : Int).toNat a3.size)))) (fun _ hk=>hk.2) (.slice Ao70 x283001_2.length co70)) (fun _ hk=>hk.1.1),puO HB.out GE270.out GE271.out GE282.out,by repeat (first|(with_reducible first|exact HK.out|apply Kept.alloc|apply Kept.drewN|apply Kept.drew|refine Kept.setCell ?_ (.inr GW270.out) _|refine Kept.setCell ?_ (.inr GW271.out) _|refine Kept.setCell ?_ (.inr GW282.out) _)|exact HK.out)⟩

end Go.Proofs.YtkcjmmhleepjeaaGreatDoor.A
