-- Printed by myprint.py (wip/tools) out of the translation. Not trusted: Lean checks it.
import Derived.Test.YtkcjmmhleepjeaaDoorAx0
import Derived.Test.YtkcjmmhleepjeaaDoorAx2
import Derived.Test.YtkcjmmhleepjeaaDoorAx3
namespace Go.Proofs.YtkcjmmhleepjeaaDoor.A
open Go.RowKit Go.Proofs.YtkcjmmhleepjeaaDoorW.PrintWords Go.Proofs.YtkcjmmhleepjeaaDoorW.PrintLast Go.Proofs.YtkcjmmhleepjeaaDoorW.PrintMore
attribute [local go_sem] max2_int min2_int max_two min_two max_three min_three max_four min_four
set_option linter.unusedVariables false
set_option maxHeartbeats 8000000
set_option maxRecDepth 100000
set_option linter.unusedSimpArgs false

/-! ### spec_EndRead: function 72 -/
def spec_EndRead.l0 : Nat → ByteArray → Int → Int → Int → Int → Option (Int × Int × Bool)
 | 0, _, _, _, _, _ => none
 | k + 1, x0, x4, x6, x147000, x147001 => if x6 < x4 then (if 0 ≤ x6 then (if x6 < (x0.size : Int) then ((spec_l1Digit.f (bt x0 x6)).bind fun t147 => (spec_EndRead.l0 k x0 x4 (wrap64 (x6 + 1)) x147000 (wrap64 ((wrap64 (10 * x147001)) + t147)))) else (none)) else (none)) else ((spec_EndText.f k x147000 x147001).bind fun t148 => (if t148.toList = x0.toList then (some (x147000, x147001, true)) else (some (0, 0, false))))
def spec_EndRead.f (k : Nat) (a0 : ByteArray) : Option (Int × Int × Bool) := (spec_l6In.f (a0.size : Int) 3 4).bind fun t144 => (if t144 = true then (if 0 < (a0.size : Int) then ((spec_l1Digit.f (bt a0 0)).bind fun t145 => (spec_EndRead.l0 k a0 (a0.size : Int) 2 t145 0)) else (none)) else (some (0, 0, false)))
theorem spec_EndRead.mono_l : ∀ k, (∀ y0 y1 y2 y3 y4, LeO (spec_EndRead.l0 k y0 y1 y2 y3 y4) (spec_EndRead.l0 (k + 1) y0 y1 y2 y3 y4))
 | 0 => fun _ _ _ _ _ r h => by simp [spec_EndRead.l0] at h
 | k + 1 => by
  have ih0:=spec_EndRead.mono_l k
  ·intro y0 y1 y2 y3 y4
   unfold spec_EndRead.l0
   repeat' first
   | (with_reducible exact ih0 _ _ _ _ _)
   | (with_reducible exact spec_EndText.mono _ _ _)
   | (with_reducible exact LeO.refl _)
   | (with_reducible exact LeO.none _)
   | (with_reducible refine LeO.ite ?_ ?_)
   | (with_reducible refine LeO.bind ?_ (fun _ => ?_))
   | exact ih0 _ _ _ _ _
   | exact spec_EndText.mono _ _ _
   | exact LeO.none _
   | refine LeO.ite ?_ ?_
   | refine LeO.bind ?_ (fun _ => ?_)
theorem spec_EndRead.mono : ∀ a0 k, LeO (spec_EndRead.f k a0) (spec_EndRead.f (k + 1) a0) := by
 intro a0 k
 have ih0:=spec_EndRead.mono_l k
 unfold spec_EndRead.f
 repeat' first
   | (with_reducible exact ih0 _ _ _ _ _)
   | (with_reducible exact spec_EndText.mono _ _ _)
   | (with_reducible exact LeO.refl _)
   | (with_reducible exact LeO.none _)
   | (with_reducible refine LeO.ite ?_ ?_)
   | (with_reducible refine LeO.bind ?_ (fun _ => ?_))
   | exact ih0 _ _ _ _ _
   | exact spec_EndText.mono _ _ _
   | exact LeO.none _
   | refine LeO.ite ?_ ?_
   | refine LeO.bind ?_ (fun _ => ?_)
def spec_EndRead.T8 : Bool × List (List Nat × List Nat) := (true, [([], []), ([0], [0]), ([1], [1]), ([], []), ([], []), ([3, 4], [3, 4]), ([5], [5]), ([2, 6], [2, 6]), ([0, 1, 2, 3, 4, 5, 6, 7], []), ([8, 7, 6, 0, 1, 2, 3, 4, 5, 6, 7], [7, 8])])
def spec_EndRead.B8 : List Nat := [0, 1, 3, 0, 0, 24, 56, 127, 255, 511]
theorem spec_EndRead.tab8 : rtab .any (opsOf Tryd.f72 8) = spec_EndRead.T8 := by kernel_rfl
theorem spec_EndRead.bits8 : waitsOk spec_EndRead.T8.2 spec_EndRead.B8 = true := by kernel_rfl
theorem spec_EndRead.calls (k : Nat) (a0 : ByteArray) (r1 : Int) (r2 : Int) (r3 : Bool) (w : World) (h : spec_EndRead.f k a0 = some (r1, r2, r3)) :
  Calls Tryd.prog 72 #[.string a0] w fun e w'=>e = .returned (.tuple #[.agg #[.int .i64 r1,.int .i64 r2],.bool r3]) ∧ Below w.heap.size w w':=by
 have hu43:=Tryd.underlying43
 have HB:=m_ (Below.refl w.heap.size w)
 have H : ((spec_l6In.f (a0.size : Int) 3 4).bind fun t144=>(if t144 = true then (if 0 < (a0.size : Int) then ((spec_l1Digit.f (bt a0 0)).bind fun t145=>(spec_EndRead.l0 k a0 (a0.size : Int) 2 t145 0)) else (none)) else (some (0,0,false)))) = some (r1,r2,r3):=h
 clear h
 replace H:=Option.bind_eq_some_iff.mp H
 obtain ⟨t144,A20,H⟩:=H
 replace H : (if t144 = true then (if 0 < (a0.size : Int) then ((spec_l1Digit.f (bt a0 0)).bind fun t145=>(spec_EndRead.l0 k a0 (a0.size : Int) 2 t145 0)) else (none)) else (some (0,0,false))) = some (r1,r2,r3):=H
 have A2:=m_ A20
 clear A20
 by_cases c3 : t144 = true
 ·subst c3
  have H1 : (if 0 < (a0.size : Int) then ((spec_l1Digit.f (bt a0 0)).bind fun t145=>(spec_EndRead.l0 k a0 (a0.size : Int) 2 t145 0)) else (none)) = some (r1,r2,r3):=by rw [if_pos rfl] at H;exact H
  clear H
  have H:=H1
  clear H1
  by_cases c4 : 0 < (a0.size : Int)
  rotate_left
  ·rw [if_neg c4] at H
   exact absurd H (by simp)
  rw [if_pos c4] at H
  have c4b0 : decide (0 < (a0.size : Int)) = true:=decide_eq_true c4
  have c4b1 : decide (0 < a0.size) = true:=decide_eq_true (by omega)
  clear c4
  replace H:=Option.bind_eq_some_iff.mp H
  obtain ⟨t145,A60,H⟩:=H
  replace H : (spec_EndRead.l0 k a0 (a0.size : Int) 2 t145 0) = some (r1,r2,r3):=H
  have A6:=m_ A60
  clear A60
  have H':=m_ H
  clear H
  go_enter Tryd.func72,Tryd.ntmps72
  go_wp2_with (first|((with_reducible refine gate_dst (N:=2) rfl ?_);refine box_event ?hg (N:=2) ?hd (cs:=#[.int .i64 0,.int .i64 0]) (t:=43) ?hr ?_;(case hd=>rfl);(case hg=>rfl);(case hr=>first|(go_simp;done)|(go_simp;rfl));intro gb143 hg w7 hbox hb;have n0_:=m_ (l5_ (puL HB.out) hb);have n1_:=m_ (hbox);have n2_:=m_ ((by rw [hg];exact (l6_ (puL HB.out)) : w.heap.size ≤ gb143));have n3_:=m_ ((by rw [hg];exact (l6_ (puL HB.out)) : w.heap.size ≤ gb143));revert n0_ n1_ n2_ n3_;clear HB;intro HB BK143 GW143 GE143;clear hb hbox hg)|((with_reducible refine gate_callee (f:=31) rfl ?_);refine goesL_ (some 10) rfl rfl Tryd.func31 (by kernel_rfl) rfl #[.int .i64 (a0.size : Int),.int .i64 3,.int .i64 4] rfl lens ?_;(with_reducible refine (spec_l6In.calls (a0.size : Int) 3 4 true _ A2.out).mono ?_);rintro e w' ⟨rfl,⟨nd,rfl⟩⟩;refine ⟨_,rfl,?_⟩;(try (rw [drewN_self w7];generalize hq_ : World.drewN w7 _ = w7;have n0_ : Aside0 (w7.heap[gb143]? = some (.cells #[.int .i64 0,.int .i64 0] 43 (0,0))):=⟨by rw [← hq_];exact (puB BK143.out)⟩;have n1_ : Aside0 (Below w.heap.size w w7):=⟨by rw [← hq_];exact (puM HB.out GE143.out)⟩;clear BK143 HB hq_;have BK143:=n0_;have HB:=n1_;clear n0_ n1_));have p5 : 0 ≤ (0 : Int):=(by omega);have q5 : 0 < a0.size:=(by have : (0 : Int) < (a0.size : Int):=of_decide_eq_true asm;omega);have hx5 : ∀ h : 0 < a0.size,((a0[0]'h).toNat : Int) = bt a0 0:=bt_at a0 0;clear p5;have qi5 : (0 < (a0.size : Int)) = True:=eq_true (of_decide_eq_true asm);replace q5:=eq_true q5)|((with_reducible refine gate_callee (f:=83) rfl ?_);refine goesL_ (some 15) rfl rfl Tryd.func83 (by kernel_rfl) rfl #[.int .u8 (bt a0 0)] rfl lens ?_;(with_reducible refine (spec_l1Digit.calls (bt a0 0) t145 _ A6.out).mono ?_);rintro e w' ⟨rfl,⟨nd,rfl⟩⟩;refine ⟨_,rfl,?_⟩;(try (rw [drewN_self w7];generalize hq_ : World.drewN w7 _ = w7;have n0_ : Aside0 (w7.heap[gb143]? = some (.cells #[.int .i64 0,.int .i64 0] 43 (0,0))):=⟨by rw [← hq_];exact (puB BK143.out)⟩;have n1_ : Aside0 (Below w.heap.size w w7):=⟨by rw [← hq_];exact (puM HB.out GE143.out)⟩;clear BK143 HB hq_;have BK143:=n0_;have HB:=n1_;clear n0_ n1_)))|((with_reducible refine gate_dst (N:=5) rfl ?_);refine box_event ?hg (N:=5) ?hd (cs:=#[.int .i64 0,.int .i64 0]) (t:=43) ?hr ?_;(case hd=>rfl);(case hg=>rfl);(case hr=>first|(go_simp;done)|(go_simp;rfl));intro gb146 hg w8 hbox hb;have n0_:=m_ (blk_below (g:=gb143) (o:=.cells #[.int .i64 0,.int .i64 0] 43 (0,0)) (puB BK143.out) hb);have n1_:=m_ (l5_ (puM HB.out GE143.out) hb);have n2_:=m_ (hbox);have n3_:=m_ ((by rw [hg];exact (l6_ (puM HB.out GE143.out)) : w.heap.size ≤ gb146));have n4_:=n3_;have n5_:=m_ ((by rw [hg];exact Nat.ne_of_lt (blk_lt (g:=gb143) (o:=.cells #[.int .i64 0,.int .i64 0] 43 (0,0)) (puB BK143.out)) : gb143 ≠ gb146));have n6_:=m_ n5_.out.symm;revert n0_ n1_ n2_ n3_ n4_ n5_ n6_;clear BK143 HB;intro BK143 HB BK146 GW146 GE146 NB143_146 NB146_143;clear hb hbox hg;have hnb9:=NB146_143.out;have hnc9:=NB143_146.out;have hcz10_0 : w8.cell? ⟨gb146,0,none⟩ = some (.int .i64 0):=(c_ BK146.out 0).trans rfl;have hcz10_1 : w8.cell? ⟨gb146,1,none⟩ = some (.int .i64 0):=(c_ BK146.out 1).trans rfl;have hfz10_0:=f_ BK146.out 0;have hfz10_1:=f_ BK146.out 1))
  go_loopg [6] k (fun kq v6 w'=>∃ (x6_1 : Int) (x147001_1 : Int),v6 = .int .i64 x6_1 ∧ Aside0 (spec_EndRead.l0 kq a0 (a0.size : Int) x6_1 t145 x147001_1 = some (r1,r2,r3)) ∧ Aside0 (kq ≤ k) ∧ Aside0 (w'.heap[gb143]? = some (.cells #[.int .i64 0,.int .i64 0] 43 (0,0))) ∧ Aside0 (w'.heap[gb146]? = some (.cells #[.int .i64 t145,.int .i64 x147001_1] 43 (0,0))) ∧ Aside0 (Below w.heap.size w w'))
  case atStart=>exact ⟨(2),(0),(by first|rfl|(simp;done)|(simp [*];done)),H',⟨Nat.le_refl _⟩,⟨by (with_reducible repeat first|apply b1_|apply b2_|apply b3_);refine b4_ ?_ NB143_146.out _;(with_reducible repeat first|apply b1_|apply b2_|apply b3_);refine b4_ ?_ NB143_146.out _;(with_reducible repeat first|apply b1_|apply b2_|apply b3_);exact BK143.out⟩,⟨by (with_reducible repeat first|apply b1_|apply b2_|apply b3_);refine blk_put (cs:=#[.int .i64 t145,.int .i64 0]) ?_ 1 _ rfl;(with_reducible repeat first|apply b1_|apply b2_|apply b3_);refine blk_put (cs:=#[.int .i64 0,.int .i64 0]) ?_ 0 _ rfl;(with_reducible repeat first|apply b1_|apply b2_|apply b3_);exact BK146.out⟩,⟨puN HB.out GE143.out GE146.out⟩⟩
  case round =>
   clear H'
   try clear p2
   try clear c3
   try clear c4
   try clear c4b0
   try clear c4b1
   try clear p5
   try clear q5
   try clear hx5
   try clear qi5
   try clear c7
   try clear c8
   try clear c9
   try clear hcz10_0
   try clear hcz10_1
   try clear hfz10_0
   try clear hfz10_1
   try clear p5
   try clear q5
   obtain ⟨x6_1,x147001_1,rfl,HA,HK1,BK143,BK146,HB⟩:=hrel
   cases gk with
   | zero => exact absurd HA.out (by simp [spec_EndRead.l0])
   | succ k1 =>
    have H:=HA.out
    clear HA
    simp only [spec_EndRead.l0] at H
    by_cases c11 : x6_1 < (a0.size : Int)
    ·rw [if_pos c11] at H
     have c11b0 : decide (x6_1 < (a0.size : Int)) = true:=decide_eq_true c11
     clear c11
     by_cases c12 : 0 ≤ x6_1
     rotate_left
     ·rw [if_neg c12] at H
      exact absurd H (by simp)
     rw [if_pos c12] at H
     have c12b0 : decide (0 ≤ x6_1) = true:=decide_eq_true c12
     clear c12
     by_cases c13 : x6_1 < (a0.size : Int)
     rotate_left
     ·rw [if_neg c13] at H
      exact absurd H (by simp)
     rw [if_pos c13] at H
     have c13b0 : decide (x6_1 < (a0.size : Int)) = true:=decide_eq_true c13
     clear c13
     replace H:=Option.bind_eq_some_iff.mp H
     obtain ⟨t147,A150,H⟩:=H
     replace H : (spec_EndRead.l0 k1 a0 (a0.size : Int) (wrap64 (x6_1 + 1)) t145 (wrap64 ((wrap64 (10 * x147001_1)) + t147))) = some (r1,r2,r3):=H
     have A15:=m_ A150
     clear A150
     have H':=m_ H
     clear H
     try go_wp2
     have n0_:=m_ (b2_ BK143.out)
     have n1_:=m_ (b2_ BK146.out)
     have n2_:=m_ (l3_ HB.out)
     clear BK143
     clear BK146
     clear HB
     have BK143:=n0_
     have BK146:=n1_
     have HB:=n2_
     clear n0_ n1_ n2_
     have p14 : 0 ≤ (x6_1 : Int):=of_decide_eq_true asm
     have q14 : x6_1 < (a0.size : Int):=of_decide_eq_true asm
     have hx14:=bt_at a0 x6_1
     replace p14:=eq_true p14
     replace q14:=eq_true q14
     refine start_ (n:=10) (S:=fun w'=>w'.cell? ⟨gb146,0,none⟩ = some (.int .i64 t145) ∧ w'.cell? ⟨gb146,1,none⟩ = some (.int .i64 x147001_1)) (ds:=[9]) #[false,false,false,false,false,false,false,false,false,false] (by kernel_rfl) rfl rfl ⟨(c_ BK146.out 0).trans rfl,(c_ BK146.out 1).trans rfl⟩ (fun hHeld=>?_);refine with_tabW spec_EndRead.tab8 spec_EndRead.bits8 (fun HT_ HW_=>?_)
     generalize wr.drew = w16 at BK143 BK146 HB hHeld ⊢
     refine pureA 0 (some 22) HT_.out ?_
     refine pureA 3 (some 25) HT_.out ?_
     refine pureA 4 (some 26) HT_.out ?_
     refine takeA 1 (some 23) rfl rfl HT_.out HW_.out hHeld ?_ (by rintro w' ⟨s0,s1⟩;go_simp;with_reducible rfl)
     refine pureA 2 (some 24) HT_.out ?_
     refine takeA 5 (some 27) rfl rfl HT_.out HW_.out hHeld ?_ (by rintro w' ⟨s0,s1⟩;go_simp;with_reducible rfl)
     refine one_ (i:=6) (N:=some 28) #[true,true,true,true,true,true,true,false,false,false] rfl rfl (one_of HT_.out (by kernel_rfl)) (by decide) (fun K hK=>?_)
     refine goes_ Tryd.func83 (by kernel_rfl) rfl #[.int .u8 (bt a0 x6_1)] (by rfl) rfl rfl lens ?_
     with_reducible refine (spec_l1Digit.calls (bt a0 x6_1) t147 _ A15.out).mono ?_
     rintro e w' ⟨rfl,⟨nd,rfl⟩⟩
     refine ⟨_,rfl,?_⟩
     refine hK.out _ _ ⟨(c_ BK146.out 0).trans rfl,(c_ BK146.out 1).trans rfl⟩ (fun hHeld=>?_)
     clear hK K
     refine norm_ (a':=?_) ?_ ?_
     rotate_left
     ·show Act.put _ (some 28) _ = _
      simp only [Act.put,s1_,s2_,s3_,i64_w,i32_w]
      rfl
     refine pureA 7 (some 29) HT_.out ?_
     refine pureA 8 (some 30) HT_.out ?_
     refine last_ (i:=9) (N:=none) #[true,true,true,true,true,true,true,true,true,true] rfl rfl (one_of HT_.out (by kernel_rfl)) (by decide) (fun K hK=>?_)
     have hs17 : w16.cell? ⟨gb146,1,none⟩ = some (.int .i64 x147001_1):=(c_ BK146.out 1).trans rfl
     have hfs17:=f_ BK146.out 1
     have hns17_0:=NB143_146.out
     have hms17_0:=NB146_143.out
     refine skip_ (w1:=?_) (by rfl) rfl ?_ ?_
     rotate_left
     ·go_simp
      rfl
     refine hK.out _ _ ?_
     clear hK K
     refine done_ (done_of HT_.out (by kernel_rfl)) ?_
     try go_wp2
     go_roundg k1
     case measure=>have:=HK1.out;omega
     case rel=>exact ⟨(wrap64 (x6_1 + 1)),(wrap64 ((wrap64 (10 * x147001_1)) + t147)),(by first|rfl|(simp;done)|(simp [*];done)),H',⟨by have:=HK1.out;omega⟩,⟨by (with_reducible repeat first|apply b1_|apply b2_|apply b3_);refine b4_ ?_ NB143_146.out _;(with_reducible repeat first|apply b1_|apply b2_|apply b3_);exact BK143.out⟩,⟨by (with_reducible repeat first|apply b1_|apply b2_|apply b3_);refine blk_put (cs:=#[.int .i64 t145,.int .i64 x147001_1]) ?_ 1 _ rfl;(with_reducible repeat first|apply b1_|apply b2_|apply b3_);exact BK146.out⟩,⟨puN HB.out GE143.out GE146.out⟩⟩
    ·rw [if_neg c11] at H
     have c11b0 : decide (x6_1 < (a0.size : Int)) = false:=decide_eq_false c11
     clear c11
     replace H:=Option.bind_eq_some_iff.mp H
     obtain ⟨t148,A180,H⟩:=H
     replace H : (if t148.toList = a0.toList then (some (t145,x147001_1,true)) else (some (0,0,false))) = some (r1,r2,r3):=H
     have A18:=m_ A180
     clear A180
     by_cases c19 : t148.toList = a0.toList
     ·rw [if_pos c19] at H
      have c19b0 : (t148.toList == a0.toList) = true:=beq_iff_eq.mpr c19
      have c19b1 : (t148.toList != a0.toList) = false:=bne_eq_false_iff_eq.mpr c19
      clear c19
      simp only [Option.some.injEq,Prod.mk.injEq] at H
      obtain ⟨rfl,rfl,rfl⟩:=H
      have hnb20:=NB146_143.out
      have hnc20:=NB143_146.out
      have hcz21_0 : wr.cell? ⟨gb146,0,none⟩ = some (.int .i64 t145):=(c_ BK146.out 0).trans rfl
      have hcz21_1 : wr.cell? ⟨gb146,1,none⟩ = some (.int .i64 x147001_1):=(c_ BK146.out 1).trans rfl
      have hfz21_0:=f_ BK146.out 0
      have hfz21_1:=f_ BK146.out 1
      go_wp2_with (first|((with_reducible refine gate_callee (f:=67) rfl ?_);refine goesL_ (some 32) rfl rfl Tryd.func67 (by kernel_rfl) rfl #[.agg #[.int .i64 t145,.int .i64 x147001_1]] rfl lens ?_;(with_reducible refine (spec_EndText.calls k1 t145 x147001_1 t148 _ A18.out).mono ?_);rintro e w22 ⟨rfl,hb⟩;refine ⟨_,rfl,?_⟩;have n0_:=m_ (blk_below (g:=gb143) (o:=.cells #[.int .i64 0,.int .i64 0] 43 (0,0)) (puB BK143.out) hb);have n1_:=m_ (blk_below (g:=gb146) (o:=.cells #[.int .i64 t145,.int .i64 x147001_1] 43 (0,0)) (puB BK146.out) hb);have n2_:=m_ (l5_ (puN HB.out GE143.out GE146.out) hb);revert n0_ n1_ n2_;clear BK143 BK146 HB;intro BK143 BK146 HB;(try clear hb);(try clear hb2);(try clear hk);(try clear hi);have hcz23_0 : w22.cell? ⟨gb146,0,none⟩ = some (.int .i64 t145):=(c_ BK146.out 0).trans rfl;have hcz23_1 : w22.cell? ⟨gb146,1,none⟩ = some (.int .i64 x147001_1):=(c_ BK146.out 1).trans rfl;have hfz23_0:=f_ BK146.out 0;have hfz23_1:=f_ BK146.out 1;have hcz24_0 : w22.cell? ⟨gb143,0,none⟩ = some (.int .i64 0):=(c_ BK143.out 0).trans rfl;have hcz24_1 : w22.cell? ⟨gb143,1,none⟩ = some (.int .i64 0):=(c_ BK143.out 1).trans rfl;have hfz24_0:=f_ BK143.out 0;have hfz24_1:=f_ BK143.out 1))
      refine bodyPost_ret (results_ct rfl _ _ gb143 43 #[.int .i64 t145,.int .i64 x147001_1] (0,0) _ rfl (by (with_reducible repeat first|apply b1_|apply b2_|apply b3_);refine blk_put (cs:=#[.int .i64 t145,.int .i64 0]) ?_ 1 _ rfl;(with_reducible repeat first|apply b1_|apply b2_|apply b3_);refine blk_put (cs:=#[.int .i64 0,.int .i64 0]) ?_ 0 _ rfl;(with_reducible repeat first|apply b1_|apply b2_|apply b3_);exact BK143.out) Tryd.underlying43 rfl (by kernel_rfl)) rfl ?_
      exact ⟨eqs,puN HB.out GE143.out GE146.out⟩
     ·rw [if_neg c19] at H
      have c19b0 : (t148.toList == a0.toList) = false:=beq_eq_false_iff_ne.mpr c19
      have c19b1 : (t148.toList != a0.toList) = true:=bne_iff_ne.mpr c19
      simp only [Option.some.injEq,Prod.mk.injEq] at H
      obtain ⟨rfl,rfl,rfl⟩:=H
      have hnb25:=NB146_143.out
      have hnc25:=NB143_146.out
      have hcz26_0 : wr.cell? ⟨gb146,0,none⟩ = some (.int .i64 t145):=(c_ BK146.out 0).trans rfl
      have hcz26_1 : wr.cell? ⟨gb146,1,none⟩ = some (.int .i64 x147001_1):=(c_ BK146.out 1).trans rfl
      have hfz26_0:=f_ BK146.out 0
      have hfz26_1:=f_ BK146.out 1
      go_wp2_with (first|((with_reducible refine gate_callee (f:=67) rfl ?_);refine goesL_ (some 32) rfl rfl Tryd.func67 (by kernel_rfl) rfl #[.agg #[.int .i64 t145,.int .i64 x147001_1]] rfl lens ?_;(with_reducible refine (spec_EndText.calls k1 t145 x147001_1 t148 _ A18.out).mono ?_);rintro e w27 ⟨rfl,hb⟩;refine ⟨_,rfl,?_⟩;have n0_:=m_ (blk_below (g:=gb143) (o:=.cells #[.int .i64 0,.int .i64 0] 43 (0,0)) (puB BK143.out) hb);have n1_:=m_ (blk_below (g:=gb146) (o:=.cells #[.int .i64 t145,.int .i64 x147001_1] 43 (0,0)) (puB BK146.out) hb);have n2_:=m_ (l5_ (puN HB.out GE143.out GE146.out) hb);revert n0_ n1_ n2_;clear BK143 BK146 HB;intro BK143 BK146 HB;(try clear hb);(try clear hb2);(try clear hk);(try clear hi);have hcz28_0 : w27.cell? ⟨gb143,0,none⟩ = some (.int .i64 0):=(c_ BK143.out 0).trans rfl;have hcz28_1 : w27.cell? ⟨gb143,1,none⟩ = some (.int .i64 0):=(c_ BK143.out 1).trans rfl;have hfz28_0:=f_ BK143.out 0;have hfz28_1:=f_ BK143.out 1))
      refine bodyPost_ret (results_ct rfl _ _ gb143 43 #[.int .i64 0,.int .i64 0] (0,0) _ rfl (by (with_reducible repeat first|apply b1_|apply b2_|apply b3_);refine blk_put (cs:=#[.int .i64 0,.int .i64 0]) ?_ 1 _ rfl;(with_reducible repeat first|apply b1_|apply b2_|apply b3_);refine blk_put (cs:=#[.int .i64 0,.int .i64 0]) ?_ 0 _ rfl;(with_reducible repeat first|apply b1_|apply b2_|apply b3_);exact BK143.out) Tryd.underlying43 rfl (by kernel_rfl)) rfl ?_
      exact ⟨eqs,puN HB.out GE143.out GE146.out⟩
 ·replace c3:=Bool.eq_false_iff.mpr c3
  subst c3
  have H1 : (some (0,0,false)) = some (r1,r2,r3):=by rw [if_neg (show ¬ (false = true) by decide)] at H;exact H
  clear H
  have H:=H1
  clear H1
  simp only [Option.some.injEq,Prod.mk.injEq] at H
  obtain ⟨rfl,rfl,rfl⟩:=H
  go_enter Tryd.func72,Tryd.ntmps72
  go_wp2_with (first|((with_reducible refine gate_dst (N:=2) rfl ?_);refine box_event ?hg (N:=2) ?hd (cs:=#[.int .i64 0,.int .i64 0]) (t:=43) ?hr ?_;(case hd=>rfl);(case hg=>rfl);(case hr=>first|(go_simp;done)|(go_simp;rfl));intro gb143 hg w29 hbox hb;have n0_:=m_ (l5_ (puL HB.out) hb);have n1_:=m_ (hbox);have n2_:=m_ ((by rw [hg];exact (l6_ (puL HB.out)) : w.heap.size ≤ gb143));have n3_:=m_ ((by rw [hg];exact (l6_ (puL HB.out)) : w.heap.size ≤ gb143));revert n0_ n1_ n2_ n3_;clear HB;intro HB BK143 GW143 GE143;clear hb hbox hg)|((with_reducible refine gate_callee (f:=31) rfl ?_);refine goesL_ (some 10) rfl rfl Tryd.func31 (by kernel_rfl) rfl #[.int .i64 (a0.size : Int),.int .i64 3,.int .i64 4] rfl lens ?_;(with_reducible refine (spec_l6In.calls (a0.size : Int) 3 4 false _ A2.out).mono ?_);rintro e w' ⟨rfl,⟨nd,rfl⟩⟩;refine ⟨_,rfl,?_⟩;(try (rw [drewN_self w29];generalize hq_ : World.drewN w29 _ = w29;have n0_ : Aside0 (w29.heap[gb143]? = some (.cells #[.int .i64 0,.int .i64 0] 43 (0,0))):=⟨by rw [← hq_];exact (puB BK143.out)⟩;have n1_ : Aside0 (Below w.heap.size w w29):=⟨by rw [← hq_];exact (puM HB.out GE143.out)⟩;clear BK143 HB hq_;have BK143:=n0_;have HB:=n1_;clear n0_ n1_));have hcz30_0 : w29.cell? ⟨gb143,0,none⟩ = some (.int .i64 0):=(c_ BK143.out 0).trans rfl;have hcz30_1 : w29.cell? ⟨gb143,1,none⟩ = some (.int .i64 0):=(c_ BK143.out 1).trans rfl;have hfz30_0:=f_ BK143.out 0;have hfz30_1:=f_ BK143.out 1))
  refine bodyPost_ret (results_ct rfl _ _ gb143 43 #[.int .i64 0,.int .i64 0] (0,0) _ rfl (by (with_reducible repeat first|apply b1_|apply b2_|apply b3_);refine blk_put (cs:=#[.int .i64 0,.int .i64 0]) ?_ 1 _ rfl;(with_reducible repeat first|apply b1_|apply b2_|apply b3_);refine blk_put (cs:=#[.int .i64 0,.int .i64 0]) ?_ 0 _ rfl;(with_reducible repeat first|apply b1_|apply b2_|apply b3_);exact BK143.out) Tryd.underlying43 rfl (by kernel_rfl)) rfl ?_
  exact ⟨eqs,puM HB.out GE143.out⟩

/-! ### spec_l2Name: function 58 -/
mutual
def spec_l2Name.l0 : Nat → ByteArray → Int → Option (Int × Int × Int)
 | 0, _, _ => none
 | k + 1, x0, x4 => if x4 ≤ 6 then (spec_l2Name.j1 k x0 x4 (decide (x4 ≤ (x0.size : Int)))) else (spec_l2Name.j1 k x0 x4 false)
def spec_l2Name.j1 : Nat → ByteArray → Int → Bool → Option (Int × Int × Int)
 | 0, _, _, _ => none
 | k + 1, x0, x4, x14 => if x14 = true then (if 0 < (x0.size : Int) then (if (bt x0 0) = 64 then (if 0 ≤ (wrap64 (x4 - 1)) then (if (wrap64 (x4 - 1)) < (x0.size : Int) then (spec_l2Name.j2 k x0 x4 ((bt x0 (wrap64 (x4 - 1))) == 59)) else (none)) else (none)) else (spec_l2Name.j2 k x0 x4 false)) else (none)) else (some (0, 0, 0))
def spec_l2Name.j2 : Nat → ByteArray → Int → Bool → Option (Int × Int × Int)
 | 0, _, _, _ => none
 | k + 1, x0, x4, x26 => if x26 = true then (if 1 ≤ (wrap64 (x4 - 1)) then (if (wrap64 (x4 - 1)) ≤ (x0.size : Int) then ((spec_EndRead.f k (x0.extract 1 ((wrap64 (x4 - 1)) : Int).toNat)).bind fun bt150 => (if bt150.2.2 = true then (some (bt150.1, bt150.2.1, x4)) else (spec_l2Name.l0 k x0 (wrap64 (x4 + 1))))) else (none)) else (none)) else (spec_l2Name.l0 k x0 (wrap64 (x4 + 1)))
end
def spec_l2Name.f (k : Nat) (a0 : ByteArray) : Option (Int × Int × Int) := spec_l2Name.l0 k a0 5
theorem spec_l2Name.mono_l : ∀ k, (∀ y0 y1, LeO (spec_l2Name.l0 k y0 y1) (spec_l2Name.l0 (k + 1) y0 y1)) ∧ (∀ y0 y1 y2, LeO (spec_l2Name.j1 k y0 y1 y2) (spec_l2Name.j1 (k + 1) y0 y1 y2)) ∧ (∀ y0 y1 y2, LeO (spec_l2Name.j2 k y0 y1 y2) (spec_l2Name.j2 (k + 1) y0 y1 y2))
 | 0 => ⟨fun _ _ r h => by simp [spec_l2Name.l0] at h, fun _ _ _ r h => by simp [spec_l2Name.j1] at h, fun _ _ _ r h => by simp [spec_l2Name.j2] at h⟩
 | k + 1 => by
  obtain ⟨ih0,ih1,ih2⟩:=spec_l2Name.mono_l k
  refine ⟨?_,?_,?_⟩
  ·intro y0 y1
   unfold spec_l2Name.l0
   repeat' first
   | (with_reducible exact ih0 _ _)
   | (with_reducible exact ih1 _ _ _)
   | (with_reducible exact ih2 _ _ _)
   | (with_reducible exact spec_EndRead.mono _ _)
   | (with_reducible exact LeO.refl _)
   | (with_reducible exact LeO.none _)
   | (with_reducible refine LeO.ite ?_ ?_)
   | (with_reducible refine LeO.bind ?_ (fun _ => ?_))
   | exact ih0 _ _
   | exact ih1 _ _ _
   | exact ih2 _ _ _
   | exact spec_EndRead.mono _ _
   | exact LeO.none _
   | refine LeO.ite ?_ ?_
   | refine LeO.bind ?_ (fun _ => ?_)
  ·intro y0 y1 y2
   unfold spec_l2Name.j1
   repeat' first
   | (with_reducible exact ih0 _ _)
   | (with_reducible exact ih1 _ _ _)
   | (with_reducible exact ih2 _ _ _)
   | (with_reducible exact spec_EndRead.mono _ _)
   | (with_reducible exact LeO.refl _)
   | (with_reducible exact LeO.none _)
   | (with_reducible refine LeO.ite ?_ ?_)
   | (with_reducible refine LeO.bind ?_ (fun _ => ?_))
   | exact ih0 _ _
   | exact ih1 _ _ _
   | exact ih2 _ _ _
   | exact spec_EndRead.mono _ _
   | exact LeO.none _
   | refine LeO.ite ?_ ?_
   | refine LeO.bind ?_ (fun _ => ?_)
  ·intro y0 y1 y2
   unfold spec_l2Name.j2
   repeat' first
   | (with_reducible exact ih0 _ _)
   | (with_reducible exact ih1 _ _ _)
   | (with_reducible exact ih2 _ _ _)
   | (with_reducible exact spec_EndRead.mono _ _)
   | (with_reducible exact LeO.refl _)
   | (with_reducible exact LeO.none _)
   | (with_reducible refine LeO.ite ?_ ?_)
   | (with_reducible refine LeO.bind ?_ (fun _ => ?_))
   | exact ih0 _ _
   | exact ih1 _ _ _
   | exact ih2 _ _ _
   | exact spec_EndRead.mono _ _
   | exact LeO.none _
   | refine LeO.ite ?_ ?_
   | refine LeO.bind ?_ (fun _ => ?_)
theorem spec_l2Name.mono : ∀ a0 k, LeO (spec_l2Name.f k a0) (spec_l2Name.f (k + 1) a0) := by
 intro a0 k
 obtain ⟨ih0,ih1,ih2⟩:=spec_l2Name.mono_l k
 unfold spec_l2Name.f
 repeat' first
   | (with_reducible exact ih0 _ _)
   | (with_reducible exact ih1 _ _ _)
   | (with_reducible exact ih2 _ _ _)
   | (with_reducible exact spec_EndRead.mono _ _)
   | (with_reducible exact LeO.refl _)
   | (with_reducible exact LeO.none _)
   | (with_reducible refine LeO.ite ?_ ?_)
   | (with_reducible refine LeO.bind ?_ (fun _ => ?_))
   | exact ih0 _ _
   | exact ih1 _ _ _
   | exact ih2 _ _ _
   | exact spec_EndRead.mono _ _
   | exact LeO.none _
   | refine LeO.ite ?_ ?_
   | refine LeO.bind ?_ (fun _ => ?_)
theorem spec_l2Name.calls (k : Nat) (a0 : ByteArray) (r1 : Int) (r2 : Int) (r3 : Int) (w : World) (h : spec_l2Name.f k a0 = some (r1, r2, r3)) :
  Calls Tryd.prog 58 #[.string a0] w fun e w'=>e = .returned (.tuple #[.agg #[.int .i64 r1,.int .i64 r2],.int .i64 r3]) ∧ Below w.heap.size w w':=by
 have hu43:=Tryd.underlying43
 have HB:=m_ (Below.refl w.heap.size w)
 have H : (spec_l2Name.l0 k a0 5) = some (r1,r2,r3):=h
 clear h
 have H':=m_ H
 clear H
 go_enter Tryd.func58,Tryd.ntmps58
 go_wp2_with (first|((with_reducible refine gate_dst (N:=2) rfl ?_);(try (refine gate_guard (by rfl) ?_;dsimp only));refine box_event ?hg (N:=2) ?hd (cs:=#[.int .i64 0,.int .i64 0]) (t:=43) ?hr ?_;(case hd=>rfl);(case hg=>rfl);(case hr=>first|(go_simp;done)|(go_simp;rfl));intro gb149 hg w2 hbox hb;have n0_:=m_ (l5_ (puL HB.out) hb);have n1_:=m_ (hbox);have n2_:=m_ ((by rw [hg];exact (l6_ (puL HB.out)) : w.heap.size ≤ gb149));have n3_:=n2_;revert n0_ n1_ n2_ n3_;clear HB;intro HB BK149 GW149 GE149;clear hb hbox hg))
 go_loopg [4] k (fun kq v4 w'=>∃ (x4_1 : Int) (x150000_1 : Int) (x150001_1 : Int),v4 = .int .i64 x4_1 ∧ Aside0 (spec_l2Name.l0 kq a0 x4_1 = some (r1,r2,r3)) ∧ Aside0 (kq ≤ k) ∧ Aside0 (w'.heap[gb149]? = some (.cells #[.int .i64 x150000_1,.int .i64 x150001_1] 43 (0,0))) ∧ Aside0 (Below w.heap.size w w'))
 case atStart=>exact ⟨(5),(0),(0),(by first|rfl|(simp;done)|(simp [*];done)),H',⟨Nat.le_refl _⟩,⟨by (with_reducible repeat first|apply b1_|apply b2_|apply b3_);exact BK149.out⟩,⟨puM HB.out GE149.out⟩⟩
 case round =>
  clear H'
  try clear p2
  obtain ⟨x4_1,x150000_1,x150001_1,rfl,HA,HK1,BK149,HB⟩:=hrel
  cases gk with
  | zero => exact absurd HA.out (by simp [spec_l2Name.l0])
  | succ k1 =>
   have H:=HA.out
   clear HA
   simp only [spec_l2Name.l0] at H
   have HC3:=m_ H
   clear H
   go_upto_region 2 with (fail)
   go_cut [14] (fun v14 wc=>∃ (kq : Nat) (x14_2 : Bool),v14 = .bool x14_2 ∧ Aside0 (spec_l2Name.j1 kq a0 x4_1 x14_2 = some (r1,r2,r3)) ∧ Aside0 (kq ≤ k1) ∧ Aside0 (wc.heap[gb149]? = some (.cells #[.int .i64 x150000_1,.int .i64 x150001_1] 43 (0,0))) ∧ Aside0 (Below w.heap.size w wc))
   case first =>
    have H:=HC3.out
    clear HC3
    by_cases c4 : x4_1 ≤ 6
    ·rw [if_pos c4] at H
     have c4b0 : decide (x4_1 ≤ 6) = true:=decide_eq_true c4
     clear c4
     (first|rw [c4b0]|(simp only [i64_w,i32_w];rw [c4b0])|skip)
     have H':=m_ H
     clear H
     go_wp2
     go_meet
     case rel=>exact ⟨_,(decide (x4_1 ≤ (a0.size : Int))),(by first|rfl|(simp;done)|(simp [*];done)),H',⟨by have:=HK1.out;first|omega|exact Nat.le_refl _⟩,⟨by (with_reducible repeat first|apply b1_|apply b2_|apply b3_);exact BK149.out⟩,⟨puM HB.out GE149.out⟩⟩
    ·rw [if_neg c4] at H
     have c4b0 : decide (x4_1 ≤ 6) = false:=decide_eq_false c4
     clear c4
     (first|rw [c4b0]|(simp only [i64_w,i32_w];rw [c4b0])|skip)
     have H':=m_ H
     clear H
     go_wp2
     go_meet
     case rel=>exact ⟨_,(false),(by first|rfl|(simp;done)|(simp [*];done)),H',⟨by have:=HK1.out;first|omega|exact Nat.le_refl _⟩,⟨by (with_reducible repeat first|apply b1_|apply b2_|apply b3_);exact BK149.out⟩,⟨puM HB.out GE149.out⟩⟩
   case rest =>
    clear HC3
    try clear p2
    try clear c4
    try clear c4b0
    try clear p2
    obtain ⟨kq,x14_2,rfl,HA,HJ2,BK149,HB⟩:=hcut
    cases kq with
    | zero => exact absurd HA.out (by simp [spec_l2Name.j1])
    | succ kj2 =>
     have H:=HA.out
     clear HA
     simp only [spec_l2Name.j1] at H
     by_cases c5 : x14_2 = true
     ·subst c5
      have H1 : (if 0 < (a0.size : Int) then (if (bt a0 0) = 64 then (if 0 ≤ (wrap64 (x4_1 - 1)) then (if (wrap64 (x4_1 - 1)) < (a0.size : Int) then (spec_l2Name.j2 kj2 a0 x4_1 ((bt a0 (wrap64 (x4_1 - 1))) == 59)) else (none)) else (none)) else (spec_l2Name.j2 kj2 a0 x4_1 false)) else (none)) = some (r1,r2,r3):=by rw [if_pos rfl] at H;exact H
      clear H
      have H:=H1
      clear H1
      have HC6:=m_ H
      clear H
      go_upto_region 4 with (fail)
      go_cut [26] (fun v26 wc=>∃ (kq : Nat) (x26_5 : Bool),v26 = .bool x26_5 ∧ Aside0 (spec_l2Name.j2 kq a0 x4_1 x26_5 = some (r1,r2,r3)) ∧ Aside0 (kq ≤ kj2) ∧ Aside0 (wc.heap[gb149]? = some (.cells #[.int .i64 x150000_1,.int .i64 x150001_1] 43 (0,0))) ∧ Aside0 (Below w.heap.size w wc))
      case first =>
       have H:=HC6.out
       clear HC6
       by_cases c7 : 0 < (a0.size : Int)
       rotate_left
       ·rw [if_neg c7] at H
        exact absurd H (by simp)
       rw [if_pos c7] at H
       have c7b0 : decide (0 < (a0.size : Int)) = true:=decide_eq_true c7
       have c7b1 : decide (0 < a0.size) = true:=decide_eq_true (by omega)
       clear c7
       (first|rw [c7b0]|(simp only [i64_w,i32_w];rw [c7b0])|skip)
       by_cases c9 : (bt a0 0) = 64
       ·rw [if_pos c9] at H
        have c9b0 : ((bt a0 0) == 64) = true:=beq_iff_eq.mpr c9
        have c9b1 : ((bt a0 0) != 64) = false:=bne_eq_false_iff_eq.mpr c9
        clear c9
        obtain ⟨ji10,hji10⟩ : ∃ j_ : Int,(wrap64 (x4_1 - 1)) = j_:=⟨_,rfl⟩
        replace H : (if 0 ≤ (ji10) then (if (ji10) < (a0.size : Int) then (spec_l2Name.j2 kj2 a0 x4_1 ((bt a0 (ji10)) == 59)) else (none)) else (none)) = some (r1,r2,r3):=by first|(rw [hji10] at H;exact H)|(simp only [hji10] at H ⊢;exact H)
        have hji10w : (IntKind.i64.wrap (x4_1 - 1)) = ji10:=(i64_w _).trans hji10
        by_cases c11 : 0 ≤ (ji10)
        rotate_left
        ·rw [if_neg c11] at H
         exact absurd H (by simp)
        rw [if_pos c11] at H
        have c11b0 : decide (0 ≤ (ji10)) = true:=decide_eq_true c11
        clear c11
        by_cases c12 : (ji10) < (a0.size : Int)
        rotate_left
        ·rw [if_neg c12] at H
         exact absurd H (by simp)
        rw [if_pos c12] at H
        have c12b0 : decide ((ji10) < (a0.size : Int)) = true:=decide_eq_true c12
        clear c12
        have H':=m_ H
        clear H
        have p8 : 0 ≤ (0 : Int):=(by omega)
        have q8 : 0 < a0.size:=(by have : (0 : Int) < (a0.size : Int):=of_decide_eq_true asm;omega)
        have hx8 : ∀ h : 0 < a0.size,((a0[0]'h).toNat : Int) = bt a0 0:=bt_at a0 0
        clear p8
        have qi8 : (0 < (a0.size : Int)) = True:=eq_true (of_decide_eq_true asm)
        replace q8:=eq_true q8
        have p13 : 0 ≤ ((ji10) : Int):=of_decide_eq_true asm
        have q13 : (ji10) < (a0.size : Int):=of_decide_eq_true asm
        have hx13:=bt_at a0 (ji10)
        replace p13:=eq_true p13
        replace q13:=eq_true q13
        go_wp2
        go_meet
        case rel=>exact ⟨_,(((bt a0 (ji10)) == 59)),(by first|rfl|(simp;done)|(simp only [← hji10] <;> (first|rfl|simp))|(simp [*];done)),H',⟨by have:=HK1.out;have:=HJ2.out;first|omega|exact Nat.le_refl _⟩,⟨by (with_reducible repeat first|apply b1_|apply b2_|apply b3_);exact BK149.out⟩,⟨puM HB.out GE149.out⟩⟩
       ·rw [if_neg c9] at H
        have c9b0 : ((bt a0 0) == 64) = false:=beq_eq_false_iff_ne.mpr c9
        have c9b1 : ((bt a0 0) != 64) = true:=bne_iff_ne.mpr c9
        have H':=m_ H
        clear H
        have p8 : 0 ≤ (0 : Int):=(by omega)
        have q8 : 0 < a0.size:=(by have : (0 : Int) < (a0.size : Int):=of_decide_eq_true asm;omega)
        have hx8 : ∀ h : 0 < a0.size,((a0[0]'h).toNat : Int) = bt a0 0:=bt_at a0 0
        clear p8
        have qi8 : (0 < (a0.size : Int)) = True:=eq_true (of_decide_eq_true asm)
        replace q8:=eq_true q8
        go_wp2
        go_meet
        case rel=>exact ⟨_,(false),(by first|rfl|(simp;done)|(simp [*];done)),H',⟨by have:=HK1.out;have:=HJ2.out;first|omega|exact Nat.le_refl _⟩,⟨by (with_reducible repeat first|apply b1_|apply b2_|apply b3_);exact BK149.out⟩,⟨puM HB.out GE149.out⟩⟩
      case rest =>
       clear HC6
       try clear c1
       try clear p1
       try clear q1
       try clear hx1
       try clear p2
       try clear c4
       try clear c4b0
       try clear c5
       try clear p6
       try clear c7
       try clear c7b0
       try clear c7b1
       try clear p8
       try clear q8
       try clear hx8
       try clear qi8
       try clear c9
       try clear c9b0
       try clear c9b1
       try clear c11
       try clear c11b0
       try clear c12
       try clear c12b0
       try clear p13
       try clear q13
       try clear hx13
       try clear p13
       try clear p2
       try clear p8
       try clear q13
       try clear q8
       obtain ⟨kq,x26_5,rfl,HA,HJ5,BK149,HB⟩:=hcut
       cases kq with
       | zero => exact absurd HA.out (by simp [spec_l2Name.j2])
       | succ kj5 =>
        have H:=HA.out
        clear HA
        simp only [spec_l2Name.j2] at H
        by_cases c14 : x26_5 = true
        ·subst c14
         have H1 : (if 1 ≤ (wrap64 (x4_1 - 1)) then (if (wrap64 (x4_1 - 1)) ≤ (a0.size : Int) then ((spec_EndRead.f kj5 (a0.extract 1 ((wrap64 (x4_1 - 1)) : Int).toNat)).bind fun bt150=>(if bt150.2.2 = true then (some (bt150.1,bt150.2.1,x4_1)) else (spec_l2Name.l0 kj5 a0 (wrap64 (x4_1 + 1))))) else (none)) else (none)) = some (r1,r2,r3):=by rw [if_pos rfl] at H;exact H
         clear H
         have H:=H1
         clear H1
         by_cases c15 : 1 ≤ (wrap64 (x4_1 - 1))
         rotate_left
         ·rw [if_neg c15] at H
          exact absurd H (by simp)
         rw [if_pos c15] at H
         have c15b0:=eq_true c15
         have c15b1:=decide_eq_true c15
         clear c15
         by_cases c16 : (wrap64 (x4_1 - 1)) ≤ (a0.size : Int)
         rotate_left
         ·rw [if_neg c16] at H
          exact absurd H (by simp)
         rw [if_pos c16] at H
         have c16b0:=eq_true c16
         have c16b1:=decide_eq_true c16
         clear c16
         replace H:=Option.bind_eq_some_iff.mp H
         obtain ⟨⟨t150,t151,t152⟩,A170,H⟩:=H
         replace H : (if t152 = true then (some (t150,t151,x4_1)) else (spec_l2Name.l0 kj5 a0 (wrap64 (x4_1 + 1)))) = some (r1,r2,r3):=H
         have A17:=m_ A170
         clear A170
         by_cases c18 : t152 = true
         ·subst c18
          have H1 : (some (t150,t151,x4_1)) = some (r1,r2,r3):=by rw [if_pos rfl] at H;exact H
          clear H
          have H:=H1
          clear H1
          simp only [Option.some.injEq,Prod.mk.injEq] at H
          obtain ⟨rfl,rfl,rfl⟩:=H
          go_wp2_with (first|((with_reducible refine gate_callee (f:=72) rfl ?_);refine goesL_ (some 32) rfl rfl Tryd.func72 (by kernel_rfl) rfl #[.string (a0.extract 1 ((wrap64 (x4_1 - 1)) : Int).toNat)] rfl lens ?_;(with_reducible refine (spec_EndRead.calls kj5 (a0.extract 1 ((wrap64 (x4_1 - 1)) : Int).toNat) t150 t151 true _ A17.out).mono ?_);rintro e w19 ⟨rfl,hb⟩;refine ⟨_,rfl,?_⟩;have n0_:=m_ (blk_below (g:=gb149) (o:=.cells #[.int .i64 x150000_1,.int .i64 x150001_1] 43 (0,0)) (puB BK149.out) hb);have n1_:=m_ (l5_ (puM HB.out GE149.out) hb);revert n0_ n1_;clear BK149 HB;intro BK149 HB;(try clear hb);(try clear hb2);(try clear hk);(try clear hi))|((with_reducible refine gate_dst (N:=5) rfl ?_);(try (refine gate_guard (by rfl) ?_;dsimp only));refine box_event ?hg (N:=5) ?hd (cs:=#[.int .i64 0,.int .i64 0]) (t:=43) ?hr ?_;(case hd=>rfl);(case hg=>rfl);(case hr=>first|(go_simp;done)|(go_simp;rfl));intro gb153 hg w20 hbox hb;have n0_:=m_ (blk_below (g:=gb149) (o:=.cells #[.int .i64 x150000_1,.int .i64 x150001_1] 43 (0,0)) (puB BK149.out) hb);have n1_:=m_ (l5_ (puM HB.out GE149.out) hb);have n2_:=m_ (hbox);have n3_:=m_ ((by rw [hg];exact (l6_ (puM HB.out GE149.out)) : w.heap.size ≤ gb153));have n4_:=n3_;have n5_:=m_ ((by rw [hg];exact Nat.ne_of_lt (blk_lt (g:=gb149) (o:=.cells #[.int .i64 x150000_1,.int .i64 x150001_1] 43 (0,0)) (puB BK149.out)) : gb149 ≠ gb153));have n6_:=m_ n5_.out.symm;revert n0_ n1_ n2_ n3_ n4_ n5_ n6_;clear BK149 HB;intro BK149 HB BK153 GW153 GE153 NB149_153 NB153_149;clear hb hbox hg;have hnb21:=NB153_149.out;have hnc21:=NB149_153.out;have hcz22_0 : w20.cell? ⟨gb153,0,none⟩ = some (.int .i64 0):=(c_ BK153.out 0).trans rfl;have hcz22_1 : w20.cell? ⟨gb153,1,none⟩ = some (.int .i64 0):=(c_ BK153.out 1).trans rfl;have hfz22_0:=f_ BK153.out 0;have hfz22_1:=f_ BK153.out 1;have hcz23_0 : w20.cell? ⟨gb149,0,none⟩ = some (.int .i64 x150000_1):=(c_ BK149.out 0).trans rfl;have hcz23_1 : w20.cell? ⟨gb149,1,none⟩ = some (.int .i64 x150001_1):=(c_ BK149.out 1).trans rfl;have hfz23_0:=f_ BK149.out 0;have hfz23_1:=f_ BK149.out 1))
          refine bodyPost_ret (results_ct rfl _ _ gb149 43 #[.int .i64 t150,.int .i64 t151] (0,0) _ rfl (by (with_reducible repeat first|apply b1_|apply b2_|apply b3_);refine blk_put (cs:=#[.int .i64 t150,.int .i64 x150001_1]) ?_ 1 _ rfl;(with_reducible repeat first|apply b1_|apply b2_|apply b3_);refine blk_put (cs:=#[.int .i64 x150000_1,.int .i64 x150001_1]) ?_ 0 _ rfl;(with_reducible repeat first|apply b1_|apply b2_|apply b3_);refine b4_ ?_ NB149_153.out _;(with_reducible repeat first|apply b1_|apply b2_|apply b3_);refine b4_ ?_ NB149_153.out _;(with_reducible repeat first|apply b1_|apply b2_|apply b3_);exact BK149.out) Tryd.underlying43 rfl (by kernel_rfl)) rfl ?_
          exact ⟨eqs,puN HB.out GE149.out GE153.out⟩
         ·replace c18:=Bool.eq_false_iff.mpr c18
          subst c18
          have H1 : (spec_l2Name.l0 kj5 a0 (wrap64 (x4_1 + 1))) = some (r1,r2,r3):=by rw [if_neg (show ¬ (false = true) by decide)] at H;exact H
          clear H
          have H:=H1
          clear H1
          have H':=m_ H
          clear H
          go_wp2_with (first|((with_reducible refine gate_callee (f:=72) rfl ?_);refine goesL_ (some 32) rfl rfl Tryd.func72 (by kernel_rfl) rfl #[.string (a0.extract 1 ((wrap64 (x4_1 - 1)) : Int).toNat)] rfl lens ?_;(with_reducible refine (spec_EndRead.calls kj5 (a0.extract 1 ((wrap64 (x4_1 - 1)) : Int).toNat) t150 t151 false _ A17.out).mono ?_);rintro e w24 ⟨rfl,hb⟩;refine ⟨_,rfl,?_⟩;have n0_:=m_ (blk_below (g:=gb149) (o:=.cells #[.int .i64 x150000_1,.int .i64 x150001_1] 43 (0,0)) (puB BK149.out) hb);have n1_:=m_ (l5_ (puM HB.out GE149.out) hb);revert n0_ n1_;clear BK149 HB;intro BK149 HB;(try clear hb);(try clear hb2);(try clear hk);(try clear hi))|((with_reducible refine gate_dst (N:=5) rfl ?_);(try (refine gate_guard (by rfl) ?_;dsimp only));refine box_event ?hg (N:=5) ?hd (cs:=#[.int .i64 0,.int .i64 0]) (t:=43) ?hr ?_;(case hd=>rfl);(case hg=>rfl);(case hr=>first|(go_simp;done)|(go_simp;rfl));intro gb153 hg w25 hbox hb;have n0_:=m_ (blk_below (g:=gb149) (o:=.cells #[.int .i64 x150000_1,.int .i64 x150001_1] 43 (0,0)) (puB BK149.out) hb);have n1_:=m_ (l5_ (puM HB.out GE149.out) hb);have n2_:=m_ (hbox);have n3_:=m_ ((by rw [hg];exact (l6_ (puM HB.out GE149.out)) : w.heap.size ≤ gb153));have n4_:=n3_;have n5_:=m_ ((by rw [hg];exact Nat.ne_of_lt (blk_lt (g:=gb149) (o:=.cells #[.int .i64 x150000_1,.int .i64 x150001_1] 43 (0,0)) (puB BK149.out)) : gb149 ≠ gb153));have n6_:=m_ n5_.out.symm;revert n0_ n1_ n2_ n3_ n4_ n5_ n6_;clear BK149 HB;intro BK149 HB BK153 GW153 GE153 NB149_153 NB153_149;clear hb hbox hg;have hnb26:=NB153_149.out;have hnc26:=NB149_153.out;have hcz27_0 : w25.cell? ⟨gb153,0,none⟩ = some (.int .i64 0):=(c_ BK153.out 0).trans rfl;have hcz27_1 : w25.cell? ⟨gb153,1,none⟩ = some (.int .i64 0):=(c_ BK153.out 1).trans rfl;have hfz27_0:=f_ BK153.out 0;have hfz27_1:=f_ BK153.out 1))
          go_roundg kj5
          case measure=>have:=HK1.out;have:=HJ2.out;have:=HJ5.out;omega
          case rel=>exact ⟨(wrap64 (x4_1 + 1)),(x150000_1),(x150001_1),(by first|rfl|(simp;done)|(simp [*];done)),H',⟨by have:=HK1.out;have:=HJ2.out;have:=HJ5.out;omega⟩,⟨by (with_reducible repeat first|apply b1_|apply b2_|apply b3_);refine b4_ ?_ NB149_153.out _;(with_reducible repeat first|apply b1_|apply b2_|apply b3_);refine b4_ ?_ NB149_153.out _;(with_reducible repeat first|apply b1_|apply b2_|apply b3_);exact BK149.out⟩,⟨puN HB.out GE149.out GE153.out⟩⟩
        ·replace c14:=Bool.eq_false_iff.mpr c14
         subst c14
         have H1 : (spec_l2Name.l0 kj5 a0 (wrap64 (x4_1 + 1))) = some (r1,r2,r3):=by rw [if_neg (show ¬ (false = true) by decide)] at H;exact H
         clear H
         have H:=H1
         clear H1
         have H':=m_ H
         clear H
         go_wp2
         go_roundg kj5
         case measure=>have:=HK1.out;have:=HJ2.out;have:=HJ5.out;omega
         case rel=>exact ⟨(wrap64 (x4_1 + 1)),(x150000_1),(x150001_1),(by first|rfl|(simp;done)|(simp [*];done)),H',⟨by have:=HK1.out;have:=HJ2.out;have:=HJ5.out;omega⟩,⟨by (with_reducible repeat first|apply b1_|apply b2_|apply b3_);exact BK149.out⟩,⟨puM HB.out GE149.out⟩⟩
     ·replace c5:=Bool.eq_false_iff.mpr c5
      subst c5
      have H1 : (some (0,0,0)) = some (r1,r2,r3):=by rw [if_neg (show ¬ (false = true) by decide)] at H;exact H
      clear H
      have H:=H1
      clear H1
      simp only [Option.some.injEq,Prod.mk.injEq] at H
      obtain ⟨rfl,rfl,rfl⟩:=H
      have hcz28_0 : wc.cell? ⟨gb149,0,none⟩ = some (.int .i64 x150000_1):=(c_ BK149.out 0).trans rfl
      have hcz28_1 : wc.cell? ⟨gb149,1,none⟩ = some (.int .i64 x150001_1):=(c_ BK149.out 1).trans rfl
      have hfz28_0:=f_ BK149.out 0
      have hfz28_1:=f_ BK149.out 1
      go_wp2
      refine bodyPost_ret (results_ct rfl _ _ gb149 43 #[.int .i64 0,.int .i64 0] (0,0) _ rfl (by (with_reducible repeat first|apply b1_|apply b2_|apply b3_);refine blk_put (cs:=#[.int .i64 0,.int .i64 x150001_1]) ?_ 1 _ rfl;(with_reducible repeat first|apply b1_|apply b2_|apply b3_);refine blk_put (cs:=#[.int .i64 x150000_1,.int .i64 x150001_1]) ?_ 0 _ rfl;(with_reducible repeat first|apply b1_|apply b2_|apply b3_);exact BK149.out) Tryd.underlying43 rfl (by kernel_rfl)) rfl ?_
      exact ⟨eqs,puM HB.out GE149.out⟩

/-! ### spec_l2Pieces: function 41 -/
def spec_l2Pieces.l0 : Nat → ByteArray → List (S45) → Int → Int → Option ((List (S45)))
 | 0, _, _, _, _ => none
 | k + 1, x0, x3, x4, x5 => if x5 < x4 then (if 0 ≤ x5 then (if x5 ≤ x4 then (if x4 ≤ (x0.size : Int) then ((spec_l2Name.f k (x0.extract (x5 : Int).toNat (x4 : Int).toNat)).bind fun bt158 => (if bt158.2.2 > 0 then (if x3.length < 4398046511104 then (spec_l2Pieces.l0 k x0 (x3 ++ [(⟨bt158.2.2, true, (⟨bt158.1, bt158.2.1⟩ : S43)⟩ : S45)]) x4 (wrap64 (x5 + bt158.2.2))) else (none)) else (if x3.length < 4398046511104 then (spec_l2Pieces.l0 k x0 (x3 ++ [(⟨1, false, (⟨0, 0⟩ : S43)⟩ : S45)]) x4 (wrap64 (x5 + 1))) else (none)))) else (none)) else (none)) else (none)) else (some x3)
def spec_l2Pieces.f (k : Nat) (a0 : ByteArray) : Option ((List (S45))) := (spec_l2Held.f k a0).bind fun t157 => (spec_l2Pieces.l0 k a0 (([] : List (S45))) (wrap64 ((a0.size : Int) - t157)) 0)
theorem spec_l2Pieces.mono_l : ∀ k, (∀ y0 y1 y2 y3, LeO (spec_l2Pieces.l0 k y0 y1 y2 y3) (spec_l2Pieces.l0 (k + 1) y0 y1 y2 y3))
 | 0 => fun _ _ _ _ r h => by simp [spec_l2Pieces.l0] at h
 | k + 1 => by
  have ih0:=spec_l2Pieces.mono_l k
  ·intro y0 y1 y2 y3
   unfold spec_l2Pieces.l0
   repeat' first
   | (with_reducible exact ih0 _ _ _ _)
   | (with_reducible exact spec_l2Held.mono _ _)
   | (with_reducible exact spec_l2Name.mono _ _)
   | (with_reducible exact LeO.refl _)
   | (with_reducible exact LeO.none _)
   | (with_reducible refine LeO.ite ?_ ?_)
   | (with_reducible refine LeO.bind ?_ (fun _ => ?_))
   | exact ih0 _ _ _ _
   | exact spec_l2Held.mono _ _
   | exact spec_l2Name.mono _ _
   | exact LeO.none _
   | refine LeO.ite ?_ ?_
   | refine LeO.bind ?_ (fun _ => ?_)
theorem spec_l2Pieces.mono : ∀ a0 k, LeO (spec_l2Pieces.f k a0) (spec_l2Pieces.f (k + 1) a0) := by
 intro a0 k
 have ih0:=spec_l2Pieces.mono_l k
 unfold spec_l2Pieces.f
 repeat' first
   | (with_reducible exact ih0 _ _ _ _)
   | (with_reducible exact spec_l2Held.mono _ _)
   | (with_reducible exact spec_l2Name.mono _ _)
   | (with_reducible exact LeO.refl _)
   | (with_reducible exact LeO.none _)
   | (with_reducible refine LeO.ite ?_ ?_)
   | (with_reducible refine LeO.bind ?_ (fun _ => ?_))
   | exact ih0 _ _ _ _
   | exact spec_l2Held.mono _ _
   | exact spec_l2Name.mono _ _
   | exact LeO.none _
   | refine LeO.ite ?_ ?_
   | refine LeO.bind ?_ (fun _ => ?_)
theorem spec_l2Pieces.calls (k : Nat) (a0 : ByteArray) (r : List (S45)) (w : World) (h : spec_l2Pieces.f k a0 = some r) :
  Calls Tryd.prog 41 #[.string a0] w fun e w'=>∃ v0_ : Value,e = .returned (v0_) ∧ Kd.R k45 45 w' w.heap.size (fun _=>True) v0_ r ∧ Below w.heap.size w w':=by
 have hu43:=Tryd.underlying43
 have hu45:=Tryd.underlying45
 have HB:=m_ (Below.refl w.heap.size w)
 have H : ((spec_l2Held.f k a0).bind fun t157=>(spec_l2Pieces.l0 k a0 (([] : List (S45))) (wrap64 ((a0.size : Int) - t157)) 0)) = some r:=h
 clear h
 obtain ⟨y154,hy154⟩ : ∃ y_ : List (S45),y_ = (([] : List (S45))):=⟨_,rfl⟩
 replace H : ((spec_l2Held.f k a0).bind fun t157=>(spec_l2Pieces.l0 k a0 y154 (wrap64 ((a0.size : Int) - t157)) 0)) = some r:=by first|(rw [hy154];with_reducible exact H)|(have H2_:=(Option.bind_some _ _).symm.trans H;rw [hy154];with_reducible exact H2_)|(have H2_:=(Option.bind_some _ _).symm.trans H;with_reducible exact H2_)|with_reducible exact H|(rw [hy154];exact H)|exact H
 have Ny154:=m_ hy154
 clear hy154
 replace H:=Option.bind_eq_some_iff.mp H
 obtain ⟨t157,A20,H⟩:=H
 replace H : (spec_l2Pieces.l0 k a0 y154 (wrap64 ((a0.size : Int) - t157)) 0) = some r:=H
 have A2:=m_ A20
 clear A20
 have H':=m_ H
 clear H
 go_enter Tryd.func41,Tryd.ntmps41
 go_wp2_with (first|((with_reducible refine gate_dst (N:=8) rfl ?_);refine Kd.R_lit k45 _ 45 ?hg (N:=8) ?hd (xs:=([] : List (S45))) (inner:=[]) (ok:=fun _=>True) (okp:=fun _=>True) ?hr ?hp (fun _ hk=>hk) trivial (Below.refl _ _) (Nat.le_refl _) (by simp) ?_;(case hd=>rfl);(case hg=>rfl);(case hr=>first|(go_simp;done)|(go_simp;rfl));(case hp=>exact (Reps.none _ _));intro v155 w3 ho4 hb hg_ hnew_;clear hg_ hnew_;(first|rw [← Ny154.out] at ho4|(simp only [Int.reduceToNat] at ho4;rw [← Ny154.out] at ho4));have n0_:=m_ (Kd.R_lower ho4 (l6_ (puL HB.out)));have n1_:=m_ (l5_ (puL HB.out) hb);revert n0_ n1_;clear HB;intro HO156 HB;clear hb ho4)|((with_reducible refine gate_callee (f:=57) rfl ?_);refine goesL_ (some 12) rfl rfl Tryd.func57 (by kernel_rfl) rfl #[.string a0] rfl lens ?_;(with_reducible refine (spec_l2Held.calls k a0 t157 _ A2.out).mono ?_);rintro e w5 ⟨rfl,hb⟩;refine ⟨_,rfl,?_⟩;have n0_:=m_ (Kd.R_below (puR HO156.out) hb);have n1_:=m_ (l5_ (puL HB.out) hb);revert n0_ n1_;clear HO156 HB;intro HO156 HB;(try clear hb);(try clear hb2);(try clear hk);(try clear hi)))
 go_loopg [3,5] k (fun kq v3 v5 w'=>∃ (x3_1 : List (S45)) (x5_1 : Int),v5 = .int .i64 x5_1 ∧ Aside0 (spec_l2Pieces.l0 kq a0 x3_1 (wrap64 ((a0.size : Int) - t157)) x5_1 = some r) ∧ Aside0 (kq ≤ k) ∧ Aside0 (Kd.R k45 45 w' w.heap.size (fun _=>True) v3 x3_1) ∧ Aside0 (Below w.heap.size w w'))
 case atStart=>exact ⟨(y154),(0),(by first|rfl|(simp;done)|(simp [*];done)),H',⟨Nat.le_refl _⟩,⟨by (with_reducible repeat (first|apply Kd.R_alloc|apply Kd.R_drewN|apply Kd.R_drew));exact HO156.out⟩,⟨puL HB.out⟩⟩
 case round =>
  clear H'
  try clear p2
  try clear c4
  try clear c5
  obtain ⟨x3_1,x5_1,rfl,HA,HK1,HO_3,HB⟩:=hrel
  cases gk with
  | zero => exact absurd HA.out (by simp [spec_l2Pieces.l0])
  | succ k1 =>
   have H:=HA.out
   clear HA
   simp only [spec_l2Pieces.l0] at H
   by_cases c6 : x5_1 < (wrap64 ((a0.size : Int) - t157))
   ·rw [if_pos c6] at H
    have c6b0 : decide (x5_1 < (wrap64 ((a0.size : Int) - t157))) = true:=decide_eq_true c6
    clear c6
    by_cases c7 : 0 ≤ x5_1
    rotate_left
    ·rw [if_neg c7] at H
     exact absurd H (by simp)
    rw [if_pos c7] at H
    have c7b0:=eq_true c7
    have c7b1:=decide_eq_true c7
    clear c7
    by_cases c8 : x5_1 ≤ (wrap64 ((a0.size : Int) - t157))
    rotate_left
    ·rw [if_neg c8] at H
     exact absurd H (by simp)
    rw [if_pos c8] at H
    have c8b0:=eq_true c8
    have c8b1:=decide_eq_true c8
    clear c8
    by_cases c9 : (wrap64 ((a0.size : Int) - t157)) ≤ (a0.size : Int)
    rotate_left
    ·rw [if_neg c9] at H
     exact absurd H (by simp)
    rw [if_pos c9] at H
    have c9b0:=eq_true c9
    have c9b1:=decide_eq_true c9
    clear c9
    replace H:=Option.bind_eq_some_iff.mp H
    obtain ⟨⟨t158,t159,t160⟩,A100,H⟩:=H
    replace H : (if t160 > 0 then (if x3_1.length < 4398046511104 then (spec_l2Pieces.l0 k1 a0 (x3_1 ++ [(⟨t160,true,(⟨t158,t159⟩ : S43)⟩ : S45)]) (wrap64 ((a0.size : Int) - t157)) (wrap64 (x5_1 + t160))) else (none)) else (if x3_1.length < 4398046511104 then (spec_l2Pieces.l0 k1 a0 (x3_1 ++ [(⟨1,false,(⟨0,0⟩ : S43)⟩ : S45)]) (wrap64 ((a0.size : Int) - t157)) (wrap64 (x5_1 + 1))) else (none))) = some r:=H
    have A10:=m_ A100
    clear A100
    by_cases c11 : t160 > 0
    ·rw [if_pos c11] at H
     have c11b0 : decide (0 < t160) = true:=decide_eq_true c11
     clear c11
     by_cases c12 : x3_1.length < 4398046511104
     ·rw [if_pos c12] at H
      have LMc12:=m_ c12
      clear c12
      obtain ⟨y162,hy162⟩ : ∃ y_ : List (S45),y_ = (x3_1 ++ [(⟨t160,true,(⟨t158,t159⟩ : S43)⟩ : S45)]):=⟨_,rfl⟩
      replace H : (spec_l2Pieces.l0 k1 a0 y162 (wrap64 ((a0.size : Int) - t157)) (wrap64 (x5_1 + t160))) = some r:=by first|(rw [hy162];with_reducible exact H)|(have H2_:=(Option.bind_some _ _).symm.trans H;rw [hy162];with_reducible exact H2_)|(have H2_:=(Option.bind_some _ _).symm.trans H;with_reducible exact H2_)|with_reducible exact H|(rw [hy162];exact H)|exact H
      have Ny162:=m_ hy162
      clear hy162
      have H':=m_ H
      clear H
      go_wp2_with (first|((with_reducible refine gate_callee (f:=58) rfl ?_);refine goesL_ (some 22) rfl rfl Tryd.func58 (by kernel_rfl) rfl #[.string (a0.extract (x5_1 : Int).toNat ((wrap64 ((a0.size : Int) - t157)) : Int).toNat)] rfl lens ?_;(with_reducible refine (spec_l2Name.calls k1 (a0.extract (x5_1 : Int).toNat ((wrap64 ((a0.size : Int) - t157)) : Int).toNat) t158 t159 t160 _ A10.out).mono ?_);rintro e w13 ⟨rfl,hb⟩;refine ⟨_,rfl,?_⟩;have n0_:=m_ (Kd.R_below (puR HO_3.out) hb);have n1_:=m_ (l5_ (puL HB.out) hb);revert n0_ n1_;clear HO_3 HB;intro HO_3 HB;(try clear hb);(try clear hb2);(try clear hk);(try clear hi))|((with_reducible refine gate_dst (N:=6) rfl ?_);refine box_event ?hg (N:=6) ?hd (cs:=#[.int .i64 0,.int .i64 0]) (t:=43) ?hr ?_;(case hd=>rfl);(case hg=>rfl);(case hr=>first|(go_simp;done)|(go_simp;rfl));intro gb161 hg w14 hbox hb;have n0_:=m_ (Kd.R_below (puR HO_3.out) hb);have n1_:=m_ (l5_ (puL HB.out) hb);have n2_:=m_ (hbox);have n3_:=m_ ((by rw [hg];exact (l6_ (puL HB.out)) : w.heap.size ≤ gb161));have n4_:=m_ ((by rw [hg];exact (l6_ (puL HB.out)) : w.heap.size ≤ gb161));revert n0_ n1_ n2_ n3_ n4_;clear HO_3 HB;intro HO_3 HB BK161 GW161 GE161;clear hb hbox hg;have hcz15_0 : w14.cell? ⟨gb161,0,none⟩ = some (.int .i64 0):=(c_ BK161.out 0).trans rfl;have hcz15_1 : w14.cell? ⟨gb161,1,none⟩ = some (.int .i64 0):=(c_ BK161.out 1).trans rfl;have hfz15_0:=f_ BK161.out 0;have hfz15_1:=f_ BK161.out 1)|((with_reducible refine gate_builtin (b:=.append) (xs:=#[.tmp 27,.tmp 31]) rfl ?_);at_builtin;refine Kd.R_append k45 (w0:=w) w.heap.size rfl (.tmp 27) (.tmp 31) 38 45 (.agg #[(.int .i64 0),(.bool false),(.int .i64 0),(.int .i64 0)]) 32 rfl Tryd.underlying38 info45 rfl (by decide) (by omega) u3 x3_1 (⟨t160,true,(⟨t158,t159⟩ : S43)⟩ : S45) [.int .i64 t160,.bool true,.int .i64 t158,.int .i64 t159] (fun _=>True) (fun _=>False) rfl (by first|(go_simp;done)|(go_simp;rfl)) ?aP (fun _ hk=>hk.elim) ?aF ?aO ?aB ?aS ?aL ?_;(case aP=>exact k45_mkM _ _ _ (⟨t160,true,(⟨t158,t159⟩ : S43)⟩ : S45));(case aB=>exact (puM HB.out GE161.out));(case aF=>exact (fun _ _=>trivial));(case aO=>exact (by (with_reducible repeat (first|apply Kd.R_alloc|apply Kd.R_drewN|apply Kd.R_drew));exact Kd.R_mono (Kd.R_far (p:=⟨gb161,1,none⟩) (Kd.R_far (p:=⟨gb161,0,none⟩) (Kd.R_types HO_3.out BK161.out (by decide)) (fun _ hk=>hk.2) (.int .i64 t158)) (fun _ hk=>hk.2) (.int .i64 t159)) (fun _ hk=>trivial)));(case aS=>exact (l6_ (puM HB.out GE161.out)));(case aL=>have:=LMc12.out;omega);intro v163 w16 ho hb hg hat;rw [← Ny162.out] at ho;have n0_:=m_ (blk_grown (g:=gb161) (o:=.cells #[.int .i64 t158,.int .i64 t159] 43 (0,0)) (by (with_reducible repeat first|apply b1_|apply b2_|apply b3_);refine blk_put (cs:=#[.int .i64 t158,.int .i64 0]) ?_ 1 _ rfl;(with_reducible repeat first|apply b1_|apply b2_|apply b3_);refine blk_put (cs:=#[.int .i64 0,.int .i64 0]) ?_ 0 _ rfl;(with_reducible repeat first|apply b1_|apply b2_|apply b3_);exact BK161.out) hg (Kd.R_ne HO_3.out BK161.out (by decide)));have n1_:=m_ (hb);have n2_:=m_ (ho);revert n0_ n1_ n2_;clear BK161 HB HO_3;intro BK161 HB HO164;clear ho hb hg hat))
      go_roundg k1
      case measure=>have:=HK1.out;omega
      case rel=>exact ⟨(y162),(wrap64 (x5_1 + t160)),(by first|rfl|(simp;done)|(simp [*];done)),H',⟨by have:=HK1.out;omega⟩,⟨by (with_reducible repeat (first|apply Kd.R_alloc|apply Kd.R_drewN|apply Kd.R_drew));exact HO164.out⟩,⟨puM HB.out GE161.out⟩⟩
     ·rw [if_neg c12] at H
      exact absurd H (by simp)
    ·rw [if_neg c11] at H
     have c11b0 : decide (0 < t160) = false:=decide_eq_false c11
     clear c11
     by_cases c17 : x3_1.length < 4398046511104
     ·rw [if_pos c17] at H
      have LMc17:=m_ c17
      clear c17
      obtain ⟨y165,hy165⟩ : ∃ y_ : List (S45),y_ = (x3_1 ++ [(⟨1,false,(⟨0,0⟩ : S43)⟩ : S45)]):=⟨_,rfl⟩
      replace H : (spec_l2Pieces.l0 k1 a0 y165 (wrap64 ((a0.size : Int) - t157)) (wrap64 (x5_1 + 1))) = some r:=by first|(rw [hy165];with_reducible exact H)|(have H2_:=(Option.bind_some _ _).symm.trans H;rw [hy165];with_reducible exact H2_)|(have H2_:=(Option.bind_some _ _).symm.trans H;with_reducible exact H2_)|with_reducible exact H|(rw [hy165];exact H)|exact H
      have Ny165:=m_ hy165
      clear hy165
      have H':=m_ H
      clear H
      go_wp2_with (first|((with_reducible refine gate_callee (f:=58) rfl ?_);refine goesL_ (some 22) rfl rfl Tryd.func58 (by kernel_rfl) rfl #[.string (a0.extract (x5_1 : Int).toNat ((wrap64 ((a0.size : Int) - t157)) : Int).toNat)] rfl lens ?_;(with_reducible refine (spec_l2Name.calls k1 (a0.extract (x5_1 : Int).toNat ((wrap64 ((a0.size : Int) - t157)) : Int).toNat) t158 t159 t160 _ A10.out).mono ?_);rintro e w18 ⟨rfl,hb⟩;refine ⟨_,rfl,?_⟩;have n0_:=m_ (Kd.R_below (puR HO_3.out) hb);have n1_:=m_ (l5_ (puL HB.out) hb);revert n0_ n1_;clear HO_3 HB;intro HO_3 HB;(try clear hb);(try clear hb2);(try clear hk);(try clear hi))|((with_reducible refine gate_dst (N:=6) rfl ?_);refine box_event ?hg (N:=6) ?hd (cs:=#[.int .i64 0,.int .i64 0]) (t:=43) ?hr ?_;(case hd=>rfl);(case hg=>rfl);(case hr=>first|(go_simp;done)|(go_simp;rfl));intro gb161 hg w19 hbox hb;have n0_:=m_ (Kd.R_below (puR HO_3.out) hb);have n1_:=m_ (l5_ (puL HB.out) hb);have n2_:=m_ (hbox);have n3_:=m_ ((by rw [hg];exact (l6_ (puL HB.out)) : w.heap.size ≤ gb161));have n4_:=m_ ((by rw [hg];exact (l6_ (puL HB.out)) : w.heap.size ≤ gb161));revert n0_ n1_ n2_ n3_ n4_;clear HO_3 HB;intro HO_3 HB BK161 GW161 GE161;clear hb hbox hg;have hcz20_0 : w19.cell? ⟨gb161,0,none⟩ = some (.int .i64 0):=(c_ BK161.out 0).trans rfl;have hcz20_1 : w19.cell? ⟨gb161,1,none⟩ = some (.int .i64 0):=(c_ BK161.out 1).trans rfl;have hfz20_0:=f_ BK161.out 0;have hfz20_1:=f_ BK161.out 1)|((with_reducible refine gate_builtin (b:=.append) (xs:=#[.tmp 33,.tmp 35]) rfl ?_);at_builtin;refine Kd.R_append k45 (w0:=w) w.heap.size rfl (.tmp 33) (.tmp 35) 38 45 (.agg #[(.int .i64 0),(.bool false),(.int .i64 0),(.int .i64 0)]) 32 rfl Tryd.underlying38 info45 rfl (by decide) (by omega) u3 x3_1 (⟨1,false,(⟨0,0⟩ : S43)⟩ : S45) [.int .i64 1,.bool false,.int .i64 0,.int .i64 0] (fun _=>True) (fun _=>False) rfl (by first|(go_simp;done)|(go_simp;rfl)) ?aP (fun _ hk=>hk.elim) ?aF ?aO ?aB ?aS ?aL ?_;(case aP=>exact k45_mkM _ _ _ (⟨1,false,(⟨0,0⟩ : S43)⟩ : S45));(case aB=>exact (puM HB.out GE161.out));(case aF=>exact (fun _ _=>trivial));(case aO=>exact (by (with_reducible repeat (first|apply Kd.R_alloc|apply Kd.R_drewN|apply Kd.R_drew));exact Kd.R_mono (Kd.R_far (p:=⟨gb161,1,none⟩) (Kd.R_far (p:=⟨gb161,0,none⟩) (Kd.R_types HO_3.out BK161.out (by decide)) (fun _ hk=>hk.2) (.int .i64 t158)) (fun _ hk=>hk.2) (.int .i64 t159)) (fun _ hk=>trivial)));(case aS=>exact (l6_ (puM HB.out GE161.out)));(case aL=>have:=LMc17.out;omega);intro v166 w21 ho hb hg hat;rw [← Ny165.out] at ho;have n0_:=m_ (blk_grown (g:=gb161) (o:=.cells #[.int .i64 t158,.int .i64 t159] 43 (0,0)) (by (with_reducible repeat first|apply b1_|apply b2_|apply b3_);refine blk_put (cs:=#[.int .i64 t158,.int .i64 0]) ?_ 1 _ rfl;(with_reducible repeat first|apply b1_|apply b2_|apply b3_);refine blk_put (cs:=#[.int .i64 0,.int .i64 0]) ?_ 0 _ rfl;(with_reducible repeat first|apply b1_|apply b2_|apply b3_);exact BK161.out) hg (Kd.R_ne HO_3.out BK161.out (by decide)));have n1_:=m_ (hb);have n2_:=m_ (ho);revert n0_ n1_ n2_;clear BK161 HB HO_3;intro BK161 HB HO167;clear ho hb hg hat))
      go_roundg k1
      case measure=>have:=HK1.out;omega
      case rel=>exact ⟨(y165),(wrap64 (x5_1 + 1)),(by first|rfl|(simp;done)|(simp [*];done)),H',⟨by have:=HK1.out;omega⟩,⟨by (with_reducible repeat (first|apply Kd.R_alloc|apply Kd.R_drewN|apply Kd.R_drew));exact HO167.out⟩,⟨puM HB.out GE161.out⟩⟩
     ·rw [if_neg c17] at H
      exact absurd H (by simp)
   ·rw [if_neg c6] at H
    have c6b0 : decide (x5_1 < (wrap64 ((a0.size : Int) - t157))) = false:=decide_eq_false c6
    clear c6
    obtain rfl:=Option.some.inj H
    go_wp2
    go_ret
    exact ⟨_,eqs,puR HO_3.out,puL HB.out⟩

/-! ### spec_TextPieces: function 22 -/
def spec_TextPieces.f (k : Nat) (a0 : ByteArray) : Option ((List (S45))) := (spec_TextOk.f k a0).bind fun t168 => (if t168 = true then ((spec_l2Pieces.f k a0).bind fun t169 => (some t169)) else (some (([] : List (S45)))))
theorem spec_TextPieces.mono : ∀ a0 k, LeO (spec_TextPieces.f k a0) (spec_TextPieces.f (k + 1) a0) := by
 intro a0 k
 unfold spec_TextPieces.f
 repeat' first
   | (with_reducible exact spec_TextOk.mono _ _)
   | (with_reducible exact spec_l2Pieces.mono _ _)
   | (with_reducible exact LeO.refl _)
   | (with_reducible exact LeO.none _)
   | (with_reducible refine LeO.ite ?_ ?_)
   | (with_reducible refine LeO.bind ?_ (fun _ => ?_))
   | exact spec_TextOk.mono _ _
   | exact spec_l2Pieces.mono _ _
   | exact LeO.none _
   | refine LeO.ite ?_ ?_
   | refine LeO.bind ?_ (fun _ => ?_)
theorem spec_TextPieces.calls (k : Nat) (a0 : ByteArray) (r : List (S45)) (w : World) (h : spec_TextPieces.f k a0 = some r) :
  Calls Tryd.prog 22 #[.string a0] w fun e w'=>∃ v0_ : Value,e = .returned (v0_) ∧ Kd.R k45 45 w' w.heap.size (fun _=>True) v0_ r ∧ Below w.heap.size w w':=by
 have HB:=m_ (Below.refl w.heap.size w)
 have H : ((spec_TextOk.f k a0).bind fun t168=>(if t168 = true then ((spec_l2Pieces.f k a0).bind fun t169=>(some t169)) else (some (([] : List (S45)))))) = some r:=h
 clear h
 replace H:=Option.bind_eq_some_iff.mp H
 obtain ⟨t168,A20,H⟩:=H
 replace H : (if t168 = true then ((spec_l2Pieces.f k a0).bind fun t169=>(some t169)) else (some (([] : List (S45))))) = some r:=H
 have A2:=m_ A20
 clear A20
 by_cases c3 : t168 = true
 ·subst c3
  have H1 : ((spec_l2Pieces.f k a0).bind fun t169=>(some t169)) = some r:=by rw [if_pos rfl] at H;exact H
  clear H
  have H:=H1
  clear H1
  replace H:=Option.bind_eq_some_iff.mp H
  obtain ⟨t169,A40,H⟩:=H
  replace H : (some t169) = some r:=H
  have A4:=m_ A40
  clear A40
  obtain rfl:=Option.some.inj H
  go_enter Tryd.func22,Tryd.ntmps22
  go_wp2_with (first|((with_reducible refine gate_callee (f:=23) rfl ?_);refine goesL_ (some 4) rfl rfl Tryd.func23 (by kernel_rfl) rfl #[.string a0] rfl lens ?_;(with_reducible refine (spec_TextOk.calls k a0 true _ A2.out).mono ?_);rintro e w' ⟨rfl,⟨nd,rfl⟩⟩;refine ⟨_,rfl,?_⟩)|((with_reducible refine gate_callee (f:=41) rfl ?_);refine goesL_ (some 8) rfl rfl Tryd.func41 (by kernel_rfl) rfl #[.string a0] rfl lens ?_;(with_reducible refine (spec_l2Pieces.calls k a0 t169 _ A4.out).mono ?_);rintro e w5 ⟨v170,rfl,ho0,hb⟩;refine ⟨_,rfl,?_⟩;have n0_:=m_ (Kd.R_lower ho0 (l6_ (puL HB.out)));have n1_:=m_ (l5_ (puL HB.out) hb);revert n0_ n1_;clear HB;intro HO171 HB;(try clear hb);(try clear hb2);(try clear hk);(try clear hi);(try clear ho0)))
  go_ret
  exact ⟨_,eqs,puR HO171.out,puL HB.out⟩
 ·replace c3:=Bool.eq_false_iff.mpr c3
  subst c3
  have H1 : (some (([] : List (S45)))) = some r:=by rw [if_neg (show ¬ (false = true) by decide)] at H;exact H
  clear H
  have H:=H1
  clear H1
  obtain ⟨y172,hy172⟩ : ∃ y_ : List (S45),y_ = (([] : List (S45))):=⟨_,rfl⟩
  replace H : (some y172) = some r:=by first|(rw [hy172];with_reducible exact H)|(have H2_:=(Option.bind_some _ _).symm.trans H;rw [hy172];with_reducible exact H2_)|(have H2_:=(Option.bind_some _ _).symm.trans H;with_reducible exact H2_)|with_reducible exact H|(rw [hy172];exact H)|exact H
  have Ny172:=m_ hy172
  clear hy172
  obtain rfl:=Option.some.inj H
  go_enter Tryd.func22,Tryd.ntmps22
  go_wp2_with (first|((with_reducible refine gate_callee (f:=23) rfl ?_);refine goesL_ (some 4) rfl rfl Tryd.func23 (by kernel_rfl) rfl #[.string a0] rfl lens ?_;(with_reducible refine (spec_TextOk.calls k a0 false _ A2.out).mono ?_);rintro e w' ⟨rfl,⟨nd,rfl⟩⟩;refine ⟨_,rfl,?_⟩)|((with_reducible refine gate_dst (N:=6) rfl ?_);refine Kd.R_lit k45 _ 45 ?hg (N:=6) ?hd (xs:=([] : List (S45))) (inner:=[]) (ok:=fun _=>True) (okp:=fun _=>True) ?hr ?hp (fun _ hk=>hk) trivial (Below.refl _ _) (Nat.le_refl _) (by simp) ?_;(case hd=>rfl);(case hg=>rfl);(case hr=>first|(go_simp;done)|(go_simp;rfl));(case hp=>exact (Reps.none _ _));intro v173 w6 ho7 hb hg_ hnew_;clear hg_ hnew_;(first|rw [← Ny172.out] at ho7|(simp only [Int.reduceToNat] at ho7;rw [← Ny172.out] at ho7));have n0_:=m_ (Kd.R_lower ho7 (l6_ (puL HB.out)));have n1_:=m_ (l5_ (puL HB.out) hb);revert n0_ n1_;clear HB;intro HO174 HB;clear hb ho7))
  go_ret
  exact ⟨_,eqs,puR HO174.out,puL HB.out⟩

end Go.Proofs.YtkcjmmhleepjeaaDoor.A
