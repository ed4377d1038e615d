-- Printed by myprint.py (wip/tools) out of the translation. Not trusted: Lean checks it.
import Derived.Test.YtkcjmmhleepjeaaGreatDoorAx0
import Derived.Test.YtkcjmmhleepjeaaGreatDoorAx4
import Derived.Test.YtkcjmmhleepjeaaGreatDoorAx5
import Derived.Test.YtkcjmmhleepjeaaGreatDoorAx6
import Derived.Test.YtkcjmmhleepjeaaGreatDoorAx7
namespace Go.Proofs.YtkcjmmhleepjeaaGreatDoor.A
open Go.RowKit Go.Proofs.YtkcjmmhleepjeaaGreatDoorW.PrintWords Go.Proofs.YtkcjmmhleepjeaaGreatDoorW.PrintLast Go.Proofs.YtkcjmmhleepjeaaGreatDoorW.PrintMore
attribute [local go_sem] max2_int min2_int max_two min_two max_three min_three max_four min_four
set_option linter.unusedVariables false
set_option maxHeartbeats 8000000
set_option maxRecDepth 100000
set_option linter.unusedSimpArgs false

/-! ### spec_EndRead: function 73 -/
def spec_EndRead.l0 : Nat → ByteArray → Int → Int → Int → Int → Option (Int × Int × Bool)
 | 0, _, _, _, _, _ => none
 | k + 1, x0, x4, x6, x229000, x229001 => if x6 < x4 then (if 0 ≤ x6 then (if x6 < (x0.size : Int) then ((spec_l1Digit.f (bt x0 x6)).bind fun t229 => (spec_EndRead.l0 k x0 x4 (wrap64 (x6 + 1)) x229000 (wrap64 ((wrap64 (10 * x229001)) + t229)))) else (none)) else (none)) else ((spec_EndText.f k x229000 x229001).bind fun t230 => (if t230.toList = x0.toList then (some (x229000, x229001, true)) else (some (0, 0, false))))
def spec_EndRead.f (k : Nat) (a0 : ByteArray) : Option (Int × Int × Bool) := (spec_l6In.f (a0.size : Int) 3 4).bind fun t226 => (if t226 = true then (if 0 < (a0.size : Int) then ((spec_l1Digit.f (bt a0 0)).bind fun t227 => (spec_EndRead.l0 k a0 (a0.size : Int) 2 t227 0)) else (none)) else (some (0, 0, false)))
theorem spec_EndRead.mono_l : ∀ k, (∀ y0 y1 y2 y3 y4, LeO (spec_EndRead.l0 k y0 y1 y2 y3 y4) (spec_EndRead.l0 (k + 1) y0 y1 y2 y3 y4))
 | 0 => fun _ _ _ _ _ r h => by simp [spec_EndRead.l0] at h
 | k + 1 => by
  have ih0:=spec_EndRead.mono_l k
  ·intro y0 y1 y2 y3 y4
   unfold spec_EndRead.l0
   exact leo2 ih0 spec_EndText.mono
theorem spec_EndRead.mono : ∀ a0 k, LeO (spec_EndRead.f k a0) (spec_EndRead.f (k + 1) a0) := by
 intro a0 k
 have ih0:=spec_EndRead.mono_l k
 unfold spec_EndRead.f
 exact leo2 ih0 spec_EndText.mono
def spec_EndRead.T8 : Bool × List (List Nat × List Nat) := (true, [([], []), ([0], [0]), ([1], [1]), ([], []), ([], []), ([3, 4], [3, 4]), ([5], [5]), ([2, 6], [2, 6]), ([0, 1, 2, 3, 4, 5, 6, 7], []), ([8, 7, 6, 0, 1, 2, 3, 4, 5, 6, 7], [7, 8])])
def spec_EndRead.B8 : List Nat := [0, 1, 3, 0, 0, 24, 56, 127, 255, 511]
theorem spec_EndRead.tab8 : rtab .any (opsOf Tryz.f73 8) = spec_EndRead.T8 := by kernel_rfl
theorem spec_EndRead.bits8 : waitsOk spec_EndRead.T8.2 spec_EndRead.B8 = true := by kernel_rfl
theorem spec_EndRead.calls (k : Nat) (a0 : ByteArray) (r1 : Int) (r2 : Int) (r3 : Bool) (w : World) (h : spec_EndRead.f k a0 = some (r1, r2, r3)) :
  Calls Tryz.prog 73 #[.string a0] w fun e w'=>e = .returned (.tuple #[.agg #[.int .i64 r1,.int .i64 r2],.bool r3]) ∧ Below w.heap.size w w':=by
 have hu49:=Tryz.underlying49
 have HB:=m_ (Below.refl w.heap.size w)
 have H : ((spec_l6In.f (a0.size : Int) 3 4).bind fun t226=>(if t226 = true then (if 0 < (a0.size : Int) then ((spec_l1Digit.f (bt a0 0)).bind fun t227=>(spec_EndRead.l0 k a0 (a0.size : Int) 2 t227 0)) else (none)) else (some (0,0,false)))) = some (r1,r2,r3):=h
 clear h
 replace H:=Option.bind_eq_some_iff.mp H
 obtain ⟨t226,A20,H⟩:=H
 have A2:=m_ A20
 clear A20
 by_cases c3 : t226 = true
 ·subst c3
  replace H:=ifp H rfl
  by_cases c4 : 0 < (a0.size : Int)
  rotate_left
  ·rw [if_neg c4] at H
   exact absurd H (by simp)
  rw [if_pos c4] at H
  have c4b0 : decide (0 < (a0.size : Int)) = true:=decide_eq_true c4
  have c4b1 : decide (0 < a0.size) = true:=decide_eq_true (by omega)
  clear c4
  replace H:=Option.bind_eq_some_iff.mp H
  obtain ⟨t227,A60,H⟩:=H
  have A6:=m_ A60
  clear A60
  have H':=m_ H
  clear H
  go_enter Tryz.func73,Tryz.ntmps73
  go_wp2_with (first|((with_reducible refine gate_dst (N:=2) rfl ?_);refine box_event ?hg (N:=2) ?hd (cs:=#[.int .i64 0,.int .i64 0]) (t:=49) ?hr ?_;(case hd=>rfl);(case hg=>rfl);(case hr=>first|(go_simp;done)|(go_simp;rfl));intro gb225 hg w7 hbox hb;have n0_:=m_ (l5_ (puL HB.out) hb);have n1_:=m_ (hbox);have n2_:=m_ ((by rw [hg];exact (l6_ (puL HB.out)) : w.heap.size ≤ gb225));have n3_:=m_ ((by rw [hg];exact (l6_ (puL HB.out)) : w.heap.size ≤ gb225));revert n0_ n1_ n2_ n3_;clear HB;intro HB BK225 GW225 GE225;clear hb hbox hg)|((with_reducible refine gate_callee (f:=27) rfl ?_);refine goesL_ (some 10) rfl rfl Tryz.func27 (by kernel_rfl) rfl #[.int .i64 (a0.size : Int),.int .i64 3,.int .i64 4] rfl lens ?_;(with_reducible refine (spec_l6In.calls (a0.size : Int) 3 4 true _ A2.out).mono ?_);rintro e w' ⟨rfl,⟨nd,rfl⟩⟩;refine ⟨_,rfl,?_⟩;(try (rw [drewN_self w7];generalize hq_ : World.drewN w7 _ = w7;have n0_ : Aside0 (w7.heap[gb225]? = some (.cells #[.int .i64 0,.int .i64 0] 49 (0,0))):=⟨by rw [← hq_];exact (puB BK225.out)⟩;have n1_ : Aside0 (Below w.heap.size w w7):=⟨by rw [← hq_];exact (puM HB.out GE225.out)⟩;clear BK225 HB hq_;have BK225:=n0_;have HB:=n1_;clear n0_ n1_));have p5 : 0 ≤ (0 : Int):=(by omega);have q5 : 0 < a0.size:=(by have : (0 : Int) < (a0.size : Int):=of_decide_eq_true asm;omega);have hx5 : ∀ h : 0 < a0.size,((a0[0]'h).toNat : Int) = bt a0 0:=bt_at a0 0;clear p5;have qi5 : (0 < (a0.size : Int)) = True:=eq_true (of_decide_eq_true asm);replace q5:=eq_true q5)|((with_reducible refine gate_callee (f:=80) rfl ?_);refine goesL_ (some 15) rfl rfl Tryz.func80 (by kernel_rfl) rfl #[.int .u8 (bt a0 0)] rfl lens ?_;(with_reducible refine (spec_l1Digit.calls (bt a0 0) t227 _ A6.out).mono ?_);rintro e w' ⟨rfl,⟨nd,rfl⟩⟩;refine ⟨_,rfl,?_⟩;(try (rw [drewN_self w7];generalize hq_ : World.drewN w7 _ = w7;have n0_ : Aside0 (w7.heap[gb225]? = some (.cells #[.int .i64 0,.int .i64 0] 49 (0,0))):=⟨by rw [← hq_];exact (puB BK225.out)⟩;have n1_ : Aside0 (Below w.heap.size w w7):=⟨by rw [← hq_];exact (puM HB.out GE225.out)⟩;clear BK225 HB hq_;have BK225:=n0_;have HB:=n1_;clear n0_ n1_)))|((with_reducible refine gate_dst (N:=5) rfl ?_);refine box_event ?hg (N:=5) ?hd (cs:=#[.int .i64 0,.int .i64 0]) (t:=49) ?hr ?_;(case hd=>rfl);(case hg=>rfl);(case hr=>first|(go_simp;done)|(go_simp;rfl));intro gb228 hg w8 hbox hb;have n0_:=m_ (blk_below (g:=gb225) (o:=.cells #[.int .i64 0,.int .i64 0] 49 (0,0)) (puB BK225.out) hb);have n1_:=m_ (l5_ (puM HB.out GE225.out) hb);have n2_:=m_ (hbox);have n3_:=m_ ((by rw [hg];exact (l6_ (puM HB.out GE225.out)) : w.heap.size ≤ gb228));have n4_:=n3_;have n5_:=m_ ((by rw [hg];exact Nat.ne_of_lt (blk_lt (g:=gb225) (o:=.cells #[.int .i64 0,.int .i64 0] 49 (0,0)) (puB BK225.out)) : gb225 ≠ gb228));have n6_:=m_ n5_.out.symm;revert n0_ n1_ n2_ n3_ n4_ n5_ n6_;clear BK225 HB;intro BK225 HB BK228 GW228 GE228 NB225_228 NB228_225;clear hb hbox hg;have hnb9:=NB228_225.out;have hnc9:=NB225_228.out;have hcz10_0 : w8.cell? ⟨gb228,0,none⟩ = some (.int .i64 0):=(c_ BK228.out 0).trans rfl;have hcz10_1 : w8.cell? ⟨gb228,1,none⟩ = some (.int .i64 0):=(c_ BK228.out 1).trans rfl;have hfz10_0:=f_ BK228.out 0;have hfz10_1:=f_ BK228.out 1))
  go_loopg [6] k (fun kq v6 w'=>∃ (x6_1 : Int) (x229001_1 : Int),v6 = .int .i64 x6_1 ∧ Aside0 (spec_EndRead.l0 kq a0 (a0.size : Int) x6_1 t227 x229001_1 = some (r1,r2,r3)) ∧ Aside0 (kq ≤ k) ∧ Aside0 (w'.heap[gb225]? = some (.cells #[.int .i64 0,.int .i64 0] 49 (0,0))) ∧ Aside0 (w'.heap[gb228]? = some (.cells #[.int .i64 t227,.int .i64 x229001_1] 49 (0,0))) ∧ Aside0 (Below w.heap.size w w'))
  case atStart=>exact ⟨(2),(0),(by first|rfl|(simp;done)|(simp [*];done)),H',⟨Nat.le_refl _⟩,⟨by (with_reducible repeat first|apply b1_|apply b2_|apply b3_);refine b4_ ?_ NB225_228.out _;(with_reducible repeat first|apply b1_|apply b2_|apply b3_);refine b4_ ?_ NB225_228.out _;(with_reducible repeat first|apply b1_|apply b2_|apply b3_);exact BK225.out⟩,⟨by (with_reducible repeat first|apply b1_|apply b2_|apply b3_);refine blk_put (cs:=#[.int .i64 t227,.int .i64 0]) ?_ 1 _ rfl;(with_reducible repeat first|apply b1_|apply b2_|apply b3_);refine blk_put (cs:=#[.int .i64 0,.int .i64 0]) ?_ 0 _ rfl;(with_reducible repeat first|apply b1_|apply b2_|apply b3_);exact BK228.out⟩,⟨puN HB.out GE225.out GE228.out⟩⟩
  case round =>
   clear H'
   try clear c2
   try clear p2
   try clear c3
   try clear c4
   try clear c4b0
   try clear c4b1
   try clear p5
   try clear q5
   try clear hx5
   try clear qi5
   try clear c7
   try clear c8
   try clear c9
   try clear hcz10_0
   try clear hcz10_1
   try clear hfz10_0
   try clear hfz10_1
   try clear p5
   try clear q5
   obtain ⟨x6_1,x229001_1,rfl,HA,HK1,BK225,BK228,HB⟩:=hrel
   cases gk with
   | zero => exact absurd HA.out (by simp [spec_EndRead.l0])
   | succ k1 =>
    have H:=HA.out
    clear HA
    simp only [spec_EndRead.l0] at H
    by_cases c11 : x6_1 < (a0.size : Int)
    ·rw [if_pos c11] at H
     have c11b0 : decide (x6_1 < (a0.size : Int)) = true:=decide_eq_true c11
     clear c11
     by_cases c12 : 0 ≤ x6_1
     rotate_left
     ·rw [if_neg c12] at H
      exact absurd H (by simp)
     rw [if_pos c12] at H
     have c12b0 : decide (0 ≤ x6_1) = true:=decide_eq_true c12
     clear c12
     by_cases c13 : x6_1 < (a0.size : Int)
     rotate_left
     ·rw [if_neg c13] at H
      exact absurd H (by simp)
     rw [if_pos c13] at H
     have c13b0 : decide (x6_1 < (a0.size : Int)) = true:=decide_eq_true c13
     clear c13
     replace H:=Option.bind_eq_some_iff.mp H
     obtain ⟨t229,A150,H⟩:=H
     have A15:=m_ A150
     clear A150
     have H':=m_ H
     clear H
     try go_wp2
     have n0_:=m_ (b2_ BK225.out)
     have n1_:=m_ (b2_ BK228.out)
     have n2_:=m_ (l3_ HB.out)
     clear BK225
     clear BK228
     clear HB
     have BK225:=n0_
     have BK228:=n1_
     have HB:=n2_
     clear n0_ n1_ n2_
     have p14 : 0 ≤ (x6_1 : Int):=of_decide_eq_true asm
     have q14 : x6_1 < (a0.size : Int):=of_decide_eq_true asm
     have hx14:=bt_at a0 x6_1
     replace p14:=eq_true p14
     replace q14:=eq_true q14
     refine start_ (n:=10) (S:=fun w'=>w'.cell? ⟨gb228,0,none⟩ = some (.int .i64 t227) ∧ w'.cell? ⟨gb228,1,none⟩ = some (.int .i64 x229001_1)) (ds:=[9]) #[false,false,false,false,false,false,false,false,false,false] (by kernel_rfl) rfl rfl ⟨(c_ BK228.out 0).trans rfl,(c_ BK228.out 1).trans rfl⟩ (fun hHeld=>?_);refine with_tabW spec_EndRead.tab8 spec_EndRead.bits8 (fun HT_ HW_=>?_)
     generalize wr.drew = w16 at BK225 BK228 HB hHeld ⊢
     refine pureA 0 (some 22) HT_.out ?_
     refine pureA 3 (some 25) HT_.out ?_
     refine pureA 4 (some 26) HT_.out ?_
     refine takeA 1 (some 23) rfl rfl HT_.out HW_.out hHeld ?_ (by rintro w' ⟨s0,s1⟩;go_simp;with_reducible rfl)
     refine pureA 2 (some 24) HT_.out ?_
     refine takeA 5 (some 27) rfl rfl HT_.out HW_.out hHeld ?_ (by rintro w' ⟨s0,s1⟩;go_simp;with_reducible rfl)
     refine one_ (i:=6) (N:=some 28) #[true,true,true,true,true,true,true,false,false,false] rfl rfl (one_of HT_.out (by kernel_rfl)) (by decide) (fun K hK=>?_)
     refine goes_ Tryz.func80 (by kernel_rfl) rfl #[.int .u8 (bt a0 x6_1)] (by rfl) rfl rfl lens ?_
     with_reducible refine (spec_l1Digit.calls (bt a0 x6_1) t229 _ A15.out).mono ?_
     rintro e w' ⟨rfl,⟨nd,rfl⟩⟩
     refine ⟨_,rfl,?_⟩
     refine hK.out _ _ ⟨(c_ BK228.out 0).trans rfl,(c_ BK228.out 1).trans rfl⟩ (fun hHeld=>?_)
     clear hK K
     refine norm_ (a':=?_) ?_ ?_
     rotate_left
     ·show Act.put _ (some 28) _ = _
      simp only [Act.put,s1_,s2_,s3_,i64_w,i32_w]
      rfl
     refine pureA 7 (some 29) HT_.out ?_
     refine pureA 8 (some 30) HT_.out ?_
     refine last_ (i:=9) (N:=none) #[true,true,true,true,true,true,true,true,true,true] rfl rfl (one_of HT_.out (by kernel_rfl)) (by decide) (fun K hK=>?_)
     have hs17 : w16.cell? ⟨gb228,1,none⟩ = some (.int .i64 x229001_1):=(c_ BK228.out 1).trans rfl
     have hfs17:=f_ BK228.out 1
     have hns17_0:=NB225_228.out
     have hms17_0:=NB228_225.out
     refine skip_ (w1:=?_) (by rfl) rfl ?_ ?_
     rotate_left
     ·go_simp
      rfl
     refine hK.out _ _ ?_
     clear hK K
     refine done_ (done_of HT_.out (by kernel_rfl)) ?_
     try go_wp2
     go_roundg k1
     case measure=>have:=HK1.out;omega
     case rel=>exact ⟨(wrap64 (x6_1 + 1)),(wrap64 ((wrap64 (10 * x229001_1)) + t229)),(by first|rfl|(simp;done)|(simp [*];done)),H',⟨by have:=HK1.out;omega⟩,⟨by (with_reducible repeat first|apply b1_|apply b2_|apply b3_);refine b4_ ?_ NB225_228.out _;(with_reducible repeat first|apply b1_|apply b2_|apply b3_);exact BK225.out⟩,⟨by (with_reducible repeat first|apply b1_|apply b2_|apply b3_);refine blk_put (cs:=#[.int .i64 t227,.int .i64 x229001_1]) ?_ 1 _ rfl;(with_reducible repeat first|apply b1_|apply b2_|apply b3_);exact BK228.out⟩,⟨puN HB.out GE225.out GE228.out⟩⟩
    ·rw [if_neg c11] at H
     have c11b0 : decide (x6_1 < (a0.size : Int)) = false:=decide_eq_false c11
     clear c11
     replace H:=Option.bind_eq_some_iff.mp H
     obtain ⟨t230,A180,H⟩:=H
     have A18:=m_ A180
     clear A180
     by_cases c19 : t230.toList = a0.toList
     ·rw [if_pos c19] at H
      have c19b0 : (t230.toList == a0.toList) = true:=beq_iff_eq.mpr c19
      have c19b1 : (t230.toList != a0.toList) = false:=bne_eq_false_iff_eq.mpr c19
      clear c19
      simp only [Option.some.injEq,Prod.mk.injEq] at H
      obtain ⟨rfl,rfl,rfl⟩:=H
      have hnb20:=NB228_225.out
      have hnc20:=NB225_228.out
      have hcz21_0 : wr.cell? ⟨gb228,0,none⟩ = some (.int .i64 t227):=(c_ BK228.out 0).trans rfl
      have hcz21_1 : wr.cell? ⟨gb228,1,none⟩ = some (.int .i64 x229001_1):=(c_ BK228.out 1).trans rfl
      have hfz21_0:=f_ BK228.out 0
      have hfz21_1:=f_ BK228.out 1
      go_wp2_with (first|((with_reducible refine gate_callee (f:=57) rfl ?_);refine goesL_ (some 32) rfl rfl Tryz.func57 (by kernel_rfl) rfl #[.agg #[.int .i64 t227,.int .i64 x229001_1]] rfl lens ?_;(with_reducible refine (spec_EndText.calls k1 t227 x229001_1 t230 _ A18.out).mono ?_);rintro e w22 ⟨rfl,hb⟩;refine ⟨_,rfl,?_⟩;have n0_:=m_ (blk_below (g:=gb225) (o:=.cells #[.int .i64 0,.int .i64 0] 49 (0,0)) (puB BK225.out) hb);have n1_:=m_ (blk_below (g:=gb228) (o:=.cells #[.int .i64 t227,.int .i64 x229001_1] 49 (0,0)) (puB BK228.out) hb);have n2_:=m_ (l5_ (puN HB.out GE225.out GE228.out) hb);revert n0_ n1_ n2_;clear BK225 BK228 HB;intro BK225 BK228 HB;(try clear hb);(try clear hb2);(try clear hk);(try clear hi);have hcz23_0 : w22.cell? ⟨gb228,0,none⟩ = some (.int .i64 t227):=(c_ BK228.out 0).trans rfl;have hcz23_1 : w22.cell? ⟨gb228,1,none⟩ = some (.int .i64 x229001_1):=(c_ BK228.out 1).trans rfl;have hfz23_0:=f_ BK228.out 0;have hfz23_1:=f_ BK228.out 1;have hcz24_0 : w22.cell? ⟨gb225,0,none⟩ = some (.int .i64 0):=(c_ BK225.out 0).trans rfl;have hcz24_1 : w22.cell? ⟨gb225,1,none⟩ = some (.int .i64 0):=(c_ BK225.out 1).trans rfl;have hfz24_0:=f_ BK225.out 0;have hfz24_1:=f_ BK225.out 1))
      refine bodyPost_ret (results_ct rfl _ _ gb225 49 #[.int .i64 t227,.int .i64 x229001_1] (0,0) _ rfl (by (with_reducible repeat first|apply b1_|apply b2_|apply b3_);refine blk_put (cs:=#[.int .i64 t227,.int .i64 0]) ?_ 1 _ rfl;(with_reducible repeat first|apply b1_|apply b2_|apply b3_);refine blk_put (cs:=#[.int .i64 0,.int .i64 0]) ?_ 0 _ rfl;(with_reducible repeat first|apply b1_|apply b2_|apply b3_);exact BK225.out) Tryz.underlying49 rfl (by kernel_rfl)) rfl ?_
      exact ⟨eqs,puN HB.out GE225.out GE228.out⟩
     ·rw [if_neg c19] at H
      have c19b0 : (t230.toList == a0.toList) = false:=beq_eq_false_iff_ne.mpr c19
      have c19b1 : (t230.toList != a0.toList) = true:=bne_iff_ne.mpr c19
      simp only [Option.some.injEq,Prod.mk.injEq] at H
      obtain ⟨rfl,rfl,rfl⟩:=H
      have hnb25:=NB228_225.out
      have hnc25:=NB225_228.out
      have hcz26_0 : wr.cell? ⟨gb228,0,none⟩ = some (.int .i64 t227):=(c_ BK228.out 0).trans rfl
      have hcz26_1 : wr.cell? ⟨gb228,1,none⟩ = some (.int .i64 x229001_1):=(c_ BK228.out 1).trans rfl
      have hfz26_0:=f_ BK228.out 0
      have hfz26_1:=f_ BK228.out 1
      go_wp2_with (first|((with_reducible refine gate_callee (f:=57) rfl ?_);refine goesL_ (some 32) rfl rfl Tryz.func57 (by kernel_rfl) rfl #[.agg #[.int .i64 t227,.int .i64 x229001_1]] rfl lens ?_;(with_reducible refine (spec_EndText.calls k1 t227 x229001_1 t230 _ A18.out).mono ?_);rintro e w27 ⟨rfl,hb⟩;refine ⟨_,rfl,?_⟩;have n0_:=m_ (blk_below (g:=gb225) (o:=.cells #[.int .i64 0,.int .i64 0] 49 (0,0)) (puB BK225.out) hb);have n1_:=m_ (blk_below (g:=gb228) (o:=.cells #[.int .i64 t227,.int .i64 x229001_1] 49 (0,0)) (puB BK228.out) hb);have n2_:=m_ (l5_ (puN HB.out GE225.out GE228.out) hb);revert n0_ n1_ n2_;clear BK225 BK228 HB;intro BK225 BK228 HB;(try clear hb);(try clear hb2);(try clear hk);(try clear hi);have hcz28_0 : w27.cell? ⟨gb225,0,none⟩ = some (.int .i64 0):=(c_ BK225.out 0).trans rfl;have hcz28_1 : w27.cell? ⟨gb225,1,none⟩ = some (.int .i64 0):=(c_ BK225.out 1).trans rfl;have hfz28_0:=f_ BK225.out 0;have hfz28_1:=f_ BK225.out 1))
      refine bodyPost_ret (results_ct rfl _ _ gb225 49 #[.int .i64 0,.int .i64 0] (0,0) _ rfl (by (with_reducible repeat first|apply b1_|apply b2_|apply b3_);refine blk_put (cs:=#[.int .i64 0,.int .i64 0]) ?_ 1 _ rfl;(with_reducible repeat first|apply b1_|apply b2_|apply b3_);refine blk_put (cs:=#[.int .i64 0,.int .i64 0]) ?_ 0 _ rfl;(with_reducible repeat first|apply b1_|apply b2_|apply b3_);exact BK225.out) Tryz.underlying49 rfl (by kernel_rfl)) rfl ?_
      exact ⟨eqs,puN HB.out GE225.out GE228.out⟩
 ·replace c3:=Bool.eq_false_iff.mpr c3
  subst c3
  replace H:=ifn H
  simp only [Option.some.injEq,Prod.mk.injEq] at H
  obtain ⟨rfl,rfl,rfl⟩:=H
  go_enter Tryz.func73,Tryz.ntmps73
  go_wp2_with (first|((with_reducible refine gate_dst (N:=2) rfl ?_);refine box_event ?hg (N:=2) ?hd (cs:=#[.int .i64 0,.int .i64 0]) (t:=49) ?hr ?_;(case hd=>rfl);(case hg=>rfl);(case hr=>first|(go_simp;done)|(go_simp;rfl));intro gb225 hg w29 hbox hb;have n0_:=m_ (l5_ (puL HB.out) hb);have n1_:=m_ (hbox);have n2_:=m_ ((by rw [hg];exact (l6_ (puL HB.out)) : w.heap.size ≤ gb225));have n3_:=m_ ((by rw [hg];exact (l6_ (puL HB.out)) : w.heap.size ≤ gb225));revert n0_ n1_ n2_ n3_;clear HB;intro HB BK225 GW225 GE225;clear hb hbox hg)|((with_reducible refine gate_callee (f:=27) rfl ?_);refine goesL_ (some 10) rfl rfl Tryz.func27 (by kernel_rfl) rfl #[.int .i64 (a0.size : Int),.int .i64 3,.int .i64 4] rfl lens ?_;(with_reducible refine (spec_l6In.calls (a0.size : Int) 3 4 false _ A2.out).mono ?_);rintro e w' ⟨rfl,⟨nd,rfl⟩⟩;refine ⟨_,rfl,?_⟩;(try (rw [drewN_self w29];generalize hq_ : World.drewN w29 _ = w29;have n0_ : Aside0 (w29.heap[gb225]? = some (.cells #[.int .i64 0,.int .i64 0] 49 (0,0))):=⟨by rw [← hq_];exact (puB BK225.out)⟩;have n1_ : Aside0 (Below w.heap.size w w29):=⟨by rw [← hq_];exact (puM HB.out GE225.out)⟩;clear BK225 HB hq_;have BK225:=n0_;have HB:=n1_;clear n0_ n1_));have hcz30_0 : w29.cell? ⟨gb225,0,none⟩ = some (.int .i64 0):=(c_ BK225.out 0).trans rfl;have hcz30_1 : w29.cell? ⟨gb225,1,none⟩ = some (.int .i64 0):=(c_ BK225.out 1).trans rfl;have hfz30_0:=f_ BK225.out 0;have hfz30_1:=f_ BK225.out 1))
  refine bodyPost_ret (results_ct rfl _ _ gb225 49 #[.int .i64 0,.int .i64 0] (0,0) _ rfl (by (with_reducible repeat first|apply b1_|apply b2_|apply b3_);refine blk_put (cs:=#[.int .i64 0,.int .i64 0]) ?_ 1 _ rfl;(with_reducible repeat first|apply b1_|apply b2_|apply b3_);refine blk_put (cs:=#[.int .i64 0,.int .i64 0]) ?_ 0 _ rfl;(with_reducible repeat first|apply b1_|apply b2_|apply b3_);exact BK225.out) Tryz.underlying49 rfl (by kernel_rfl)) rfl ?_
  exact ⟨eqs,puM HB.out GE225.out⟩

/-! ### spec_l2Name: function 62 -/
mutual
def spec_l2Name.l0 : Nat → ByteArray → Int → Option (Int × Int × Int)
 | 0, _, _ => none
 | k + 1, x0, x4 => if x4 ≤ 6 then (spec_l2Name.j1 k x0 x4 (decide (x4 ≤ (x0.size : Int)))) else (spec_l2Name.j1 k x0 x4 false)
def spec_l2Name.j1 : Nat → ByteArray → Int → Bool → Option (Int × Int × Int)
 | 0, _, _, _ => none
 | k + 1, x0, x4, x14 => if x14 = true then (if 0 < (x0.size : Int) then (if (bt x0 0) = 64 then (if 0 ≤ (wrap64 (x4 - 1)) then (if (wrap64 (x4 - 1)) < (x0.size : Int) then (spec_l2Name.j2 k x0 x4 ((bt x0 (wrap64 (x4 - 1))) == 59)) else (none)) else (none)) else (spec_l2Name.j2 k x0 x4 false)) else (none)) else (some (0, 0, 0))
def spec_l2Name.j2 : Nat → ByteArray → Int → Bool → Option (Int × Int × Int)
 | 0, _, _, _ => none
 | k + 1, x0, x4, x26 => if x26 = true then (if 1 ≤ (wrap64 (x4 - 1)) then (if (wrap64 (x4 - 1)) ≤ (x0.size : Int) then ((spec_EndRead.f k (x0.extract 1 ((wrap64 (x4 - 1)) : Int).toNat)).bind fun bt232 => (if bt232.2.2 = true then (some (bt232.1, bt232.2.1, x4)) else (spec_l2Name.l0 k x0 (wrap64 (x4 + 1))))) else (none)) else (none)) else (spec_l2Name.l0 k x0 (wrap64 (x4 + 1)))
end
def spec_l2Name.f (k : Nat) (a0 : ByteArray) : Option (Int × Int × Int) := spec_l2Name.l0 k a0 5
theorem spec_l2Name.mono_l : ∀ k, (∀ y0 y1, LeO (spec_l2Name.l0 k y0 y1) (spec_l2Name.l0 (k + 1) y0 y1)) ∧ (∀ y0 y1 y2, LeO (spec_l2Name.j1 k y0 y1 y2) (spec_l2Name.j1 (k + 1) y0 y1 y2)) ∧ (∀ y0 y1 y2, LeO (spec_l2Name.j2 k y0 y1 y2) (spec_l2Name.j2 (k + 1) y0 y1 y2))
 | 0 => ⟨fun _ _ r h => by simp [spec_l2Name.l0] at h, fun _ _ _ r h => by simp [spec_l2Name.j1] at h, fun _ _ _ r h => by simp [spec_l2Name.j2] at h⟩
 | k + 1 => by
  obtain ⟨ih0,ih1,ih2⟩:=spec_l2Name.mono_l k
  refine ⟨?_,?_,?_⟩
  ·intro y0 y1
   unfold spec_l2Name.l0
   exact leo4 ih0 ih1 ih2 spec_EndRead.mono
  ·intro y0 y1 y2
   unfold spec_l2Name.j1
   exact leo4 ih0 ih1 ih2 spec_EndRead.mono
  ·intro y0 y1 y2
   unfold spec_l2Name.j2
   exact leo4 ih0 ih1 ih2 spec_EndRead.mono
theorem spec_l2Name.mono : ∀ a0 k, LeO (spec_l2Name.f k a0) (spec_l2Name.f (k + 1) a0) := by
 intro a0 k
 obtain ⟨ih0,ih1,ih2⟩:=spec_l2Name.mono_l k
 unfold spec_l2Name.f
 exact leo4 ih0 ih1 ih2 spec_EndRead.mono
theorem spec_l2Name.calls (k : Nat) (a0 : ByteArray) (r1 : Int) (r2 : Int) (r3 : Int) (w : World) (h : spec_l2Name.f k a0 = some (r1, r2, r3)) :
  Calls Tryz.prog 62 #[.string a0] w fun e w'=>e = .returned (.tuple #[.agg #[.int .i64 r1,.int .i64 r2],.int .i64 r3]) ∧ Below w.heap.size w w':=by
 have hu49:=Tryz.underlying49
 have HB:=m_ (Below.refl w.heap.size w)
 have H : (spec_l2Name.l0 k a0 5) = some (r1,r2,r3):=h
 clear h
 have H':=m_ H
 clear H
 go_enter Tryz.func62,Tryz.ntmps62
 go_wp2_with (first|((with_reducible refine gate_dst (N:=2) rfl ?_);(try (refine gate_guard (by rfl) ?_;dsimp only));refine box_event ?hg (N:=2) ?hd (cs:=#[.int .i64 0,.int .i64 0]) (t:=49) ?hr ?_;(case hd=>rfl);(case hg=>rfl);(case hr=>first|(go_simp;done)|(go_simp;rfl));intro gb231 hg w2 hbox hb;have n0_:=m_ (l5_ (puL HB.out) hb);have n1_:=m_ (hbox);have n2_:=m_ ((by rw [hg];exact (l6_ (puL HB.out)) : w.heap.size ≤ gb231));have n3_:=n2_;revert n0_ n1_ n2_ n3_;clear HB;intro HB BK231 GW231 GE231;clear hb hbox hg))
 go_loopg [4] k (fun kq v4 w'=>∃ (x4_1 : Int) (x232000_1 : Int) (x232001_1 : Int),v4 = .int .i64 x4_1 ∧ Aside0 (spec_l2Name.l0 kq a0 x4_1 = some (r1,r2,r3)) ∧ Aside0 (kq ≤ k) ∧ Aside0 (w'.heap[gb231]? = some (.cells #[.int .i64 x232000_1,.int .i64 x232001_1] 49 (0,0))) ∧ Aside0 (Below w.heap.size w w'))
 case atStart=>exact ⟨(5),(0),(0),(by first|rfl|(simp;done)|(simp [*];done)),H',⟨Nat.le_refl _⟩,⟨by (with_reducible repeat first|apply b1_|apply b2_|apply b3_);exact BK231.out⟩,⟨puM HB.out GE231.out⟩⟩
 case round =>
  clear H'
  try clear p2
  obtain ⟨x4_1,x232000_1,x232001_1,rfl,HA,HK1,BK231,HB⟩:=hrel
  cases gk with
  | zero => exact absurd HA.out (by simp [spec_l2Name.l0])
  | succ k1 =>
   have H:=HA.out
   clear HA
   simp only [spec_l2Name.l0] at H
   have HC3:=m_ H
   clear H
   go_upto_region 2 with (fail)
   go_cut [14] (fun v14 wc=>∃ (kq : Nat) (x14_2 : Bool),v14 = .bool x14_2 ∧ Aside0 (spec_l2Name.j1 kq a0 x4_1 x14_2 = some (r1,r2,r3)) ∧ Aside0 (kq ≤ k1) ∧ Aside0 (wc.heap[gb231]? = some (.cells #[.int .i64 x232000_1,.int .i64 x232001_1] 49 (0,0))) ∧ Aside0 (Below w.heap.size w wc))
   case first =>
    have H:=HC3.out
    clear HC3
    by_cases c4 : x4_1 ≤ 6
    ·rw [if_pos c4] at H
     have c4b0 : decide (x4_1 ≤ 6) = true:=decide_eq_true c4
     clear c4
     (first|rw [c4b0]|(simp only [i64_w,i32_w];rw [c4b0])|skip)
     have H':=m_ H
     clear H
     go_wp2
     go_meet
     case rel=>exact ⟨_,(decide (x4_1 ≤ (a0.size : Int))),(by first|rfl|(simp;done)|(simp [*];done)),H',⟨by have:=HK1.out;first|omega|exact Nat.le_refl _⟩,⟨by (with_reducible repeat first|apply b1_|apply b2_|apply b3_);exact BK231.out⟩,⟨puM HB.out GE231.out⟩⟩
    ·rw [if_neg c4] at H
     have c4b0 : decide (x4_1 ≤ 6) = false:=decide_eq_false c4
     clear c4
     (first|rw [c4b0]|(simp only [i64_w,i32_w];rw [c4b0])|skip)
     have H':=m_ H
     clear H
     go_wp2
     go_meet
     case rel=>exact ⟨_,(false),(by first|rfl|(simp;done)|(simp [*];done)),H',⟨by have:=HK1.out;first|omega|exact Nat.le_refl _⟩,⟨by (with_reducible repeat first|apply b1_|apply b2_|apply b3_);exact BK231.out⟩,⟨puM HB.out GE231.out⟩⟩
   case rest =>
    clear HC3
    try clear p2
    try clear c4
    try clear c4b0
    try clear p2
    obtain ⟨kq,x14_2,rfl,HA,HJ2,BK231,HB⟩:=hcut
    cases kq with
    | zero => exact absurd HA.out (by simp [spec_l2Name.j1])
    | succ kj2 =>
     have H:=HA.out
     clear HA
     simp only [spec_l2Name.j1] at H
     by_cases c5 : x14_2 = true
     ·subst c5
      replace H:=ifp H rfl
      have HC6:=m_ H
      clear H
      go_upto_region 4 with (fail)
      go_cut [26] (fun v26 wc=>∃ (kq : Nat) (x26_5 : Bool),v26 = .bool x26_5 ∧ Aside0 (spec_l2Name.j2 kq a0 x4_1 x26_5 = some (r1,r2,r3)) ∧ Aside0 (kq ≤ kj2) ∧ Aside0 (wc.heap[gb231]? = some (.cells #[.int .i64 x232000_1,.int .i64 x232001_1] 49 (0,0))) ∧ Aside0 (Below w.heap.size w wc))
      case first =>
       have H:=HC6.out
       clear HC6
       by_cases c7 : 0 < (a0.size : Int)
       rotate_left
       ·rw [if_neg c7] at H
        exact absurd H (by simp)
       rw [if_pos c7] at H
       have c7b0 : decide (0 < (a0.size : Int)) = true:=decide_eq_true c7
       have c7b1 : decide (0 < a0.size) = true:=decide_eq_true (by omega)
       clear c7
       (first|rw [c7b0]|(simp only [i64_w,i32_w];rw [c7b0])|skip)
       by_cases c9 : (bt a0 0) = 64
       ·rw [if_pos c9] at H
        have c9b0 : ((bt a0 0) == 64) = true:=beq_iff_eq.mpr c9
        have c9b1 : ((bt a0 0) != 64) = false:=bne_eq_false_iff_eq.mpr c9
        clear c9
        obtain ⟨ji10,hji10⟩ : ∃ j_ : Int,(wrap64 (x4_1 - 1)) = j_:=⟨_,rfl⟩
        replace H : (if 0 ≤ (ji10) then (if (ji10) < (a0.size : Int) then (spec_l2Name.j2 kj2 a0 x4_1 ((bt a0 (ji10)) == 59)) else (none)) else (none)) = some (r1,r2,r3):=by first|(rw [hji10] at H;exact H)|(simp only [hji10] at H ⊢;exact H)
        have hji10w : (IntKind.i64.wrap (x4_1 - 1)) = ji10:=(i64_w _).trans hji10
        by_cases c11 : 0 ≤ (ji10)
        rotate_left
        ·rw [if_neg c11] at H
         exact absurd H (by simp)
        rw [if_pos c11] at H
        have c11b0 : decide (0 ≤ (ji10)) = true:=decide_eq_true c11
        clear c11
        by_cases c12 : (ji10) < (a0.size : Int)
        rotate_left
        ·rw [if_neg c12] at H
         exact absurd H (by simp)
        rw [if_pos c12] at H
        have c12b0 : decide ((ji10) < (a0.size : Int)) = true:=decide_eq_true c12
        clear c12
        have H':=m_ H
        clear H
        have p8 : 0 ≤ (0 : Int):=(by omega)
        have q8 : 0 < a0.size:=(by have : (0 : Int) < (a0.size : Int):=of_decide_eq_true asm;omega)
        have hx8 : ∀ h : 0 < a0.size,((a0[0]'h).toNat : Int) = bt a0 0:=bt_at a0 0
        clear p8
        have qi8 : (0 < (a0.size : Int)) = True:=eq_true (of_decide_eq_true asm)
        replace q8:=eq_true q8
        have p13 : 0 ≤ ((ji10) : Int):=of_decide_eq_true asm
        have q13 : (ji10) < (a0.size : Int):=of_decide_eq_true asm
        have hx13:=bt_at a0 (ji10)
        replace p13:=eq_true p13
        replace q13:=eq_true q13
        go_wp2
        go_meet
        case rel=>exact ⟨_,(((bt a0 (ji10)) == 59)),(by first|rfl|(simp;done)|(simp only [← hji10] <;> (first|rfl|simp))|(simp [*];done)),H',⟨by have:=HK1.out;have:=HJ2.out;first|omega|exact Nat.le_refl _⟩,⟨by (with_reducible repeat first|apply b1_|apply b2_|apply b3_);exact BK231.out⟩,⟨puM HB.out GE231.out⟩⟩
       ·rw [if_neg c9] at H
        have c9b0 : ((bt a0 0) == 64) = false:=beq_eq_false_iff_ne.mpr c9
        have c9b1 : ((bt a0 0) != 64) = true:=bne_iff_ne.mpr c9
        have H':=m_ H
        clear H
        have p8 : 0 ≤ (0 : Int):=(by omega)
        have q8 : 0 < a0.size:=(by have : (0 : Int) < (a0.size : Int):=of_decide_eq_true asm;omega)
        have hx8 : ∀ h : 0 < a0.size,((a0[0]'h).toNat : Int) = bt a0 0:=bt_at a0 0
        clear p8
        have qi8 : (0 < (a0.size : Int)) = True:=eq_true (of_decide_eq_true asm)
        replace q8:=eq_true q8
        go_wp2
        go_meet
        case rel=>exact ⟨_,(false),(by first|rfl|(simp;done)|(simp [*];done)),H',⟨by have:=HK1.out;have:=HJ2.out;first|omega|exact Nat.le_refl _⟩,⟨by (with_reducible repeat first|apply b1_|apply b2_|apply b3_);exact BK231.out⟩,⟨puM HB.out GE231.out⟩⟩
      case rest =>
       clear HC6
       try clear c1
       try clear p1
       try clear q1
       try clear hx1
       try clear p2
       try clear c4
       try clear c4b0
       try clear c5
       try clear c6
       try clear p6
       try clear c7
       try clear c7b0
       try clear c7b1
       try clear p8
       try clear q8
       try clear hx8
       try clear qi8
       try clear c9
       try clear c9b0
       try clear c9b1
       try clear c11
       try clear c11b0
       try clear c12
       try clear c12b0
       try clear p13
       try clear q13
       try clear hx13
       try clear p13
       try clear p2
       try clear p8
       try clear q13
       try clear q8
       obtain ⟨kq,x26_5,rfl,HA,HJ5,BK231,HB⟩:=hcut
       cases kq with
       | zero => exact absurd HA.out (by simp [spec_l2Name.j2])
       | succ kj5 =>
        have H:=HA.out
        clear HA
        simp only [spec_l2Name.j2] at H
        by_cases c14 : x26_5 = true
        ·subst c14
         replace H:=ifp H rfl
         by_cases c15 : 1 ≤ (wrap64 (x4_1 - 1))
         rotate_left
         ·rw [if_neg c15] at H
          exact absurd H (by simp)
         rw [if_pos c15] at H
         have c15b0:=eq_true c15
         have c15b1:=decide_eq_true c15
         clear c15
         by_cases c16 : (wrap64 (x4_1 - 1)) ≤ (a0.size : Int)
         rotate_left
         ·rw [if_neg c16] at H
          exact absurd H (by simp)
         rw [if_pos c16] at H
         have c16b0:=eq_true c16
         have c16b1:=decide_eq_true c16
         clear c16
         replace H:=Option.bind_eq_some_iff.mp H
         obtain ⟨⟨t232,t233,t234⟩,A170,H⟩:=H
         replace H : (if t234 = true then (some (t232,t233,x4_1)) else (spec_l2Name.l0 kj5 a0 (wrap64 (x4_1 + 1)))) = some (r1,r2,r3):=H
         have A17:=m_ A170
         clear A170
         by_cases c18 : t234 = true
         ·subst c18
          replace H:=ifp H rfl
          simp only [Option.some.injEq,Prod.mk.injEq] at H
          obtain ⟨rfl,rfl,rfl⟩:=H
          go_wp2_with (first|((with_reducible refine gate_callee (f:=73) rfl ?_);refine goesL_ (some 32) rfl rfl Tryz.func73 (by kernel_rfl) rfl #[.string (a0.extract 1 ((wrap64 (x4_1 - 1)) : Int).toNat)] rfl lens ?_;(with_reducible refine (spec_EndRead.calls kj5 (a0.extract 1 ((wrap64 (x4_1 - 1)) : Int).toNat) t232 t233 true _ A17.out).mono ?_);rintro e w19 ⟨rfl,hb⟩;refine ⟨_,rfl,?_⟩;have n0_:=m_ (blk_below (g:=gb231) (o:=.cells #[.int .i64 x232000_1,.int .i64 x232001_1] 49 (0,0)) (puB BK231.out) hb);have n1_:=m_ (l5_ (puM HB.out GE231.out) hb);revert n0_ n1_;clear BK231 HB;intro BK231 HB;(try clear hb);(try clear hb2);(try clear hk);(try clear hi))|((with_reducible refine gate_dst (N:=5) rfl ?_);(try (refine gate_guard (by rfl) ?_;dsimp only));refine box_event ?hg (N:=5) ?hd (cs:=#[.int .i64 0,.int .i64 0]) (t:=49) ?hr ?_;(case hd=>rfl);(case hg=>rfl);(case hr=>first|(go_simp;done)|(go_simp;rfl));intro gb235 hg w20 hbox hb;have n0_:=m_ (blk_below (g:=gb231) (o:=.cells #[.int .i64 x232000_1,.int .i64 x232001_1] 49 (0,0)) (puB BK231.out) hb);have n1_:=m_ (l5_ (puM HB.out GE231.out) hb);have n2_:=m_ (hbox);have n3_:=m_ ((by rw [hg];exact (l6_ (puM HB.out GE231.out)) : w.heap.size ≤ gb235));have n4_:=n3_;have n5_:=m_ ((by rw [hg];exact Nat.ne_of_lt (blk_lt (g:=gb231) (o:=.cells #[.int .i64 x232000_1,.int .i64 x232001_1] 49 (0,0)) (puB BK231.out)) : gb231 ≠ gb235));have n6_:=m_ n5_.out.symm;revert n0_ n1_ n2_ n3_ n4_ n5_ n6_;clear BK231 HB;intro BK231 HB BK235 GW235 GE235 NB231_235 NB235_231;clear hb hbox hg;have hnb21:=NB235_231.out;have hnc21:=NB231_235.out;have hcz22_0 : w20.cell? ⟨gb235,0,none⟩ = some (.int .i64 0):=(c_ BK235.out 0).trans rfl;have hcz22_1 : w20.cell? ⟨gb235,1,none⟩ = some (.int .i64 0):=(c_ BK235.out 1).trans rfl;have hfz22_0:=f_ BK235.out 0;have hfz22_1:=f_ BK235.out 1;have hcz23_0 : w20.cell? ⟨gb231,0,none⟩ = some (.int .i64 x232000_1):=(c_ BK231.out 0).trans rfl;have hcz23_1 : w20.cell? ⟨gb231,1,none⟩ = some (.int .i64 x232001_1):=(c_ BK231.out 1).trans rfl;have hfz23_0:=f_ BK231.out 0;have hfz23_1:=f_ BK231.out 1))
          refine bodyPost_ret (results_ct rfl _ _ gb231 49 #[.int .i64 t232,.int .i64 t233] (0,0) _ rfl (by (with_reducible repeat first|apply b1_|apply b2_|apply b3_);refine blk_put (cs:=#[.int .i64 t232,.int .i64 x232001_1]) ?_ 1 _ rfl;(with_reducible repeat first|apply b1_|apply b2_|apply b3_);refine blk_put (cs:=#[.int .i64 x232000_1,.int .i64 x232001_1]) ?_ 0 _ rfl;(with_reducible repeat first|apply b1_|apply b2_|apply b3_);refine b4_ ?_ NB231_235.out _;(with_reducible repeat first|apply b1_|apply b2_|apply b3_);refine b4_ ?_ NB231_235.out _;(with_reducible repeat first|apply b1_|apply b2_|apply b3_);exact BK231.out) Tryz.underlying49 rfl (by kernel_rfl)) rfl ?_
          exact ⟨eqs,puN HB.out GE231.out GE235.out⟩
         ·replace c18:=Bool.eq_false_iff.mpr c18
          subst c18
          replace H:=ifn H
          have H':=m_ H
          clear H
          go_wp2_with (first|((with_reducible refine gate_callee (f:=73) rfl ?_);refine goesL_ (some 32) rfl rfl Tryz.func73 (by kernel_rfl) rfl #[.string (a0.extract 1 ((wrap64 (x4_1 - 1)) : Int).toNat)] rfl lens ?_;(with_reducible refine (spec_EndRead.calls kj5 (a0.extract 1 ((wrap64 (x4_1 - 1)) : Int).toNat) t232 t233 false _ A17.out).mono ?_);rintro e w24 ⟨rfl,hb⟩;refine ⟨_,rfl,?_⟩;have n0_:=m_ (blk_below (g:=gb231) (o:=.cells #[.int .i64 x232000_1,.int .i64 x232001_1] 49 (0,0)) (puB BK231.out) hb);have n1_:=m_ (l5_ (puM HB.out GE231.out) hb);revert n0_ n1_;clear BK231 HB;intro BK231 HB;(try clear hb);(try clear hb2);(try clear hk);(try clear hi))|((with_reducible refine gate_dst (N:=5) rfl ?_);(try (refine gate_guard (by rfl) ?_;dsimp only));refine box_event ?hg (N:=5) ?hd (cs:=#[.int .i64 0,.int .i64 0]) (t:=49) ?hr ?_;(case hd=>rfl);(case hg=>rfl);(case hr=>first|(go_simp;done)|(go_simp;rfl));intro gb235 hg w25 hbox hb;have n0_:=m_ (blk_below (g:=gb231) (o:=.cells #[.int .i64 x232000_1,.int .i64 x232001_1] 49 (0,0)) (puB BK231.out) hb);have n1_:=m_ (l5_ (puM HB.out GE231.out) hb);have n2_:=m_ (hbox);have n3_:=m_ ((by rw [hg];exact (l6_ (puM HB.out GE231.out)) : w.heap.size ≤ gb235));have n4_:=n3_;have n5_:=m_ ((by rw [hg];exact Nat.ne_of_lt (blk_lt (g:=gb231) (o:=.cells #[.int .i64 x232000_1,.int .i64 x232001_1] 49 (0,0)) (puB BK231.out)) : gb231 ≠ gb235));have n6_:=m_ n5_.out.symm;revert n0_ n1_ n2_ n3_ n4_ n5_ n6_;clear BK231 HB;intro BK231 HB BK235 GW235 GE235 NB231_235 NB235_231;clear hb hbox hg;have hnb26:=NB235_231.out;have hnc26:=NB231_235.out;have hcz27_0 : w25.cell? ⟨gb235,0,none⟩ = some (.int .i64 0):=(c_ BK235.out 0).trans rfl;have hcz27_1 : w25.cell? ⟨gb235,1,none⟩ = some (.int .i64 0):=(c_ BK235.out 1).trans rfl;have hfz27_0:=f_ BK235.out 0;have hfz27_1:=f_ BK235.out 1))
          go_roundg kj5
          case measure=>have:=HK1.out;have:=HJ2.out;have:=HJ5.out;omega
          case rel=>exact ⟨(wrap64 (x4_1 + 1)),(x232000_1),(x232001_1),(by first|rfl|(simp;done)|(simp [*];done)),H',⟨by have:=HK1.out;have:=HJ2.out;have:=HJ5.out;omega⟩,⟨by (with_reducible repeat first|apply b1_|apply b2_|apply b3_);refine b4_ ?_ NB231_235.out _;(with_reducible repeat first|apply b1_|apply b2_|apply b3_);refine b4_ ?_ NB231_235.out _;(with_reducible repeat first|apply b1_|apply b2_|apply b3_);exact BK231.out⟩,⟨puN HB.out GE231.out GE235.out⟩⟩
        ·replace c14:=Bool.eq_false_iff.mpr c14
         subst c14
         replace H:=ifn H
         have H':=m_ H
         clear H
         go_wp2
         go_roundg kj5
         case measure=>have:=HK1.out;have:=HJ2.out;have:=HJ5.out;omega
         case rel=>exact ⟨(wrap64 (x4_1 + 1)),(x232000_1),(x232001_1),(by first|rfl|(simp;done)|(simp [*];done)),H',⟨by have:=HK1.out;have:=HJ2.out;have:=HJ5.out;omega⟩,⟨by (with_reducible repeat first|apply b1_|apply b2_|apply b3_);exact BK231.out⟩,⟨puM HB.out GE231.out⟩⟩
     ·replace c5:=Bool.eq_false_iff.mpr c5
      subst c5
      replace H:=ifn H
      simp only [Option.some.injEq,Prod.mk.injEq] at H
      obtain ⟨rfl,rfl,rfl⟩:=H
      have hcz28_0 : wc.cell? ⟨gb231,0,none⟩ = some (.int .i64 x232000_1):=(c_ BK231.out 0).trans rfl
      have hcz28_1 : wc.cell? ⟨gb231,1,none⟩ = some (.int .i64 x232001_1):=(c_ BK231.out 1).trans rfl
      have hfz28_0:=f_ BK231.out 0
      have hfz28_1:=f_ BK231.out 1
      go_wp2
      refine bodyPost_ret (results_ct rfl _ _ gb231 49 #[.int .i64 0,.int .i64 0] (0,0) _ rfl (by (with_reducible repeat first|apply b1_|apply b2_|apply b3_);refine blk_put (cs:=#[.int .i64 0,.int .i64 x232001_1]) ?_ 1 _ rfl;(with_reducible repeat first|apply b1_|apply b2_|apply b3_);refine blk_put (cs:=#[.int .i64 x232000_1,.int .i64 x232001_1]) ?_ 0 _ rfl;(with_reducible repeat first|apply b1_|apply b2_|apply b3_);exact BK231.out) Tryz.underlying49 rfl (by kernel_rfl)) rfl ?_
      exact ⟨eqs,puM HB.out GE231.out⟩

/-! ### spec_l2Pieces: function 46 -/
def spec_l2Pieces.l0 : Nat → ByteArray → List (S51) → Int → Int → Option ((List (S51)))
 | 0, _, _, _, _ => none
 | k + 1, x0, x3, x4, x5 => if x5 < x4 then (if 0 ≤ x5 then (if x5 ≤ x4 then (if x4 ≤ (x0.size : Int) then ((spec_l2Name.f k (x0.extract (x5 : Int).toNat (x4 : Int).toNat)).bind fun bt240 => (if bt240.2.2 > 0 then (if x3.length < 4398046511104 then (spec_l2Pieces.l0 k x0 (x3 ++ [(⟨bt240.2.2, true, (⟨bt240.1, bt240.2.1⟩ : S49)⟩ : S51)]) x4 (wrap64 (x5 + bt240.2.2))) else (none)) else (if x3.length < 4398046511104 then (spec_l2Pieces.l0 k x0 (x3 ++ [(⟨1, false, (⟨0, 0⟩ : S49)⟩ : S51)]) x4 (wrap64 (x5 + 1))) else (none)))) else (none)) else (none)) else (none)) else (some x3)
def spec_l2Pieces.f (k : Nat) (a0 : ByteArray) : Option ((List (S51))) := (spec_l2Held.f k a0).bind fun t239 => (spec_l2Pieces.l0 k a0 (([] : List (S51))) (wrap64 ((a0.size : Int) - t239)) 0)
theorem spec_l2Pieces.mono_l : ∀ k, (∀ y0 y1 y2 y3, LeO (spec_l2Pieces.l0 k y0 y1 y2 y3) (spec_l2Pieces.l0 (k + 1) y0 y1 y2 y3))
 | 0 => fun _ _ _ _ r h => by simp [spec_l2Pieces.l0] at h
 | k + 1 => by
  have ih0:=spec_l2Pieces.mono_l k
  ·intro y0 y1 y2 y3
   unfold spec_l2Pieces.l0
   exact leo3 ih0 spec_l2Held.mono spec_l2Name.mono
theorem spec_l2Pieces.mono : ∀ a0 k, LeO (spec_l2Pieces.f k a0) (spec_l2Pieces.f (k + 1) a0) := by
 intro a0 k
 have ih0:=spec_l2Pieces.mono_l k
 unfold spec_l2Pieces.f
 exact leo3 ih0 spec_l2Held.mono spec_l2Name.mono
theorem spec_l2Pieces.calls (k : Nat) (a0 : ByteArray) (r : List (S51)) (w : World) (h : spec_l2Pieces.f k a0 = some r) :
  Calls Tryz.prog 46 #[.string a0] w fun e w'=>∃ v0_ : Value,e = .returned (v0_) ∧ Kd.R k51 51 w' w.heap.size (fun _=>True) v0_ r ∧ Below w.heap.size w w':=by
 have hu49:=Tryz.underlying49
 have hu51:=Tryz.underlying51
 have HB:=m_ (Below.refl w.heap.size w)
 have H : ((spec_l2Held.f k a0).bind fun t239=>(spec_l2Pieces.l0 k a0 (([] : List (S51))) (wrap64 ((a0.size : Int) - t239)) 0)) = some r:=h
 clear h
 obtain ⟨y236,hy236⟩ : ∃ y_ : List (S51),y_ = (([] : List (S51))):=⟨_,rfl⟩
 replace H : ((spec_l2Held.f k a0).bind fun t239=>(spec_l2Pieces.l0 k a0 y236 (wrap64 ((a0.size : Int) - t239)) 0)) = some r:=by first|(rw [hy236];with_reducible exact H)|(have H2_:=(Option.bind_some _ _).symm.trans H;rw [hy236];with_reducible exact H2_)|(have H2_:=(Option.bind_some _ _).symm.trans H;with_reducible exact H2_)|with_reducible exact H|(rw [hy236];exact H)|exact H
 have Ny236:=m_ hy236
 clear hy236
 replace H:=Option.bind_eq_some_iff.mp H
 obtain ⟨t239,A20,H⟩:=H
 have A2:=m_ A20
 clear A20
 have H':=m_ H
 clear H
 go_enter Tryz.func46,Tryz.ntmps46
 go_wp2_with (first|((with_reducible refine gate_dst (N:=8) rfl ?_);refine Kd.R_lit k51 _ 51 ?hg (N:=8) ?hd (xs:=([] : List (S51))) (inner:=[]) (ok:=fun _=>True) (okp:=fun _=>True) ?hr ?hp (fun _ hk=>hk) trivial (Below.refl _ _) (Nat.le_refl _) (by simp) ?_;(case hd=>rfl);(case hg=>rfl);(case hr=>first|(go_simp;done)|(go_simp;rfl));(case hp=>exact (Reps.none _ _));intro v237 w3 ho4 hb hg_ hnew_;clear hg_ hnew_;(first|rw [← Ny236.out] at ho4|(simp only [Int.reduceToNat] at ho4;rw [← Ny236.out] at ho4));have n0_:=m_ (Kd.R_lower ho4 (l6_ (puL HB.out)));have n1_:=m_ (l5_ (puL HB.out) hb);revert n0_ n1_;clear HB;intro HO238 HB;clear hb ho4)|((with_reducible refine gate_callee (f:=61) rfl ?_);refine goesL_ (some 12) rfl rfl Tryz.func61 (by kernel_rfl) rfl #[.string a0] rfl lens ?_;(with_reducible refine (spec_l2Held.calls k a0 t239 _ A2.out).mono ?_);rintro e w5 ⟨rfl,hb⟩;refine ⟨_,rfl,?_⟩;have n0_:=m_ (Kd.R_below (puR HO238.out) hb);have n1_:=m_ (l5_ (puL HB.out) hb);revert n0_ n1_;clear HO238 HB;intro HO238 HB;(try clear hb);(try clear hb2);(try clear hk);(try clear hi)))
 go_loopg [3,5] k (fun kq v3 v5 w'=>∃ (x3_1 : List (S51)) (x5_1 : Int),v5 = .int .i64 x5_1 ∧ Aside0 (spec_l2Pieces.l0 kq a0 x3_1 (wrap64 ((a0.size : Int) - t239)) x5_1 = some r) ∧ Aside0 (kq ≤ k) ∧ Aside0 (Kd.R k51 51 w' w.heap.size (fun _=>True) v3 x3_1) ∧ Aside0 (Below w.heap.size w w'))
 case atStart=>exact ⟨(y236),(0),(by first|rfl|(simp;done)|(simp [*];done)),H',⟨Nat.le_refl _⟩,⟨by (with_reducible repeat (first|apply Kd.R_alloc|apply Kd.R_drewN|apply Kd.R_drew));exact HO238.out⟩,⟨puL HB.out⟩⟩
 case round =>
  clear H'
  try clear p2
  try clear c4
  obtain ⟨x3_1,x5_1,rfl,HA,HK1,HO_3,HB⟩:=hrel
  cases gk with
  | zero => exact absurd HA.out (by simp [spec_l2Pieces.l0])
  | succ k1 =>
   have H:=HA.out
   clear HA
   simp only [spec_l2Pieces.l0] at H
   by_cases c6 : x5_1 < (wrap64 ((a0.size : Int) - t239))
   ·rw [if_pos c6] at H
    have c6b0 : decide (x5_1 < (wrap64 ((a0.size : Int) - t239))) = true:=decide_eq_true c6
    clear c6
    by_cases c7 : 0 ≤ x5_1
    rotate_left
    ·rw [if_neg c7] at H
     exact absurd H (by simp)
    rw [if_pos c7] at H
    have c7b0:=eq_true c7
    have c7b1:=decide_eq_true c7
    clear c7
    by_cases c8 : x5_1 ≤ (wrap64 ((a0.size : Int) - t239))
    rotate_left
    ·rw [if_neg c8] at H
     exact absurd H (by simp)
    rw [if_pos c8] at H
    have c8b0:=eq_true c8
    have c8b1:=decide_eq_true c8
    clear c8
    by_cases c9 : (wrap64 ((a0.size : Int) - t239)) ≤ (a0.size : Int)
    rotate_left
    ·rw [if_neg c9] at H
     exact absurd H (by simp)
    rw [if_pos c9] at H
    have c9b0:=eq_true c9
    have c9b1:=decide_eq_true c9
    clear c9
    replace H:=Option.bind_eq_some_iff.mp H
    obtain ⟨⟨t240,t241,t242⟩,A100,H⟩:=H
    replace H : (if t242 > 0 then (if x3_1.length < 4398046511104 then (spec_l2Pieces.l0 k1 a0 (x3_1 ++ [(⟨t242,true,(⟨t240,t241⟩ : S49)⟩ : S51)]) (wrap64 ((a0.size : Int) - t239)) (wrap64 (x5_1 + t242))) else (none)) else (if x3_1.length < 4398046511104 then (spec_l2Pieces.l0 k1 a0 (x3_1 ++ [(⟨1,false,(⟨0,0⟩ : S49)⟩ : S51)]) (wrap64 ((a0.size : Int) - t239)) (wrap64 (x5_1 + 1))) else (none))) = some r:=H
    have A10:=m_ A100
    clear A100
    by_cases c11 : t242 > 0
    ·rw [if_pos c11] at H
     have c11b0 : decide (0 < t242) = true:=decide_eq_true c11
     clear c11
     by_cases c12 : x3_1.length < 4398046511104
     ·rw [if_pos c12] at H
      have LMc12:=m_ c12
      clear c12
      obtain ⟨y244,hy244⟩ : ∃ y_ : List (S51),y_ = (x3_1 ++ [(⟨t242,true,(⟨t240,t241⟩ : S49)⟩ : S51)]):=⟨_,rfl⟩
      replace H : (spec_l2Pieces.l0 k1 a0 y244 (wrap64 ((a0.size : Int) - t239)) (wrap64 (x5_1 + t242))) = some r:=by first|(rw [hy244];with_reducible exact H)|(have H2_:=(Option.bind_some _ _).symm.trans H;rw [hy244];with_reducible exact H2_)|(have H2_:=(Option.bind_some _ _).symm.trans H;with_reducible exact H2_)|with_reducible exact H|(rw [hy244];exact H)|exact H
      have Ny244:=m_ hy244
      clear hy244
      have H':=m_ H
      clear H
      go_wp2_with (first|((with_reducible refine gate_callee (f:=62) rfl ?_);refine goesL_ (some 22) rfl rfl Tryz.func62 (by kernel_rfl) rfl #[.string (a0.extract (x5_1 : Int).toNat ((wrap64 ((a0.size : Int) - t239)) : Int).toNat)] rfl lens ?_;(with_reducible refine (spec_l2Name.calls k1 (a0.extract (x5_1 : Int).toNat ((wrap64 ((a0.size : Int) - t239)) : Int).toNat) t240 t241 t242 _ A10.out).mono ?_);rintro e w13 ⟨rfl,hb⟩;refine ⟨_,rfl,?_⟩;have n0_:=m_ (Kd.R_below (puR HO_3.out) hb);have n1_:=m_ (l5_ (puL HB.out) hb);revert n0_ n1_;clear HO_3 HB;intro HO_3 HB;(try clear hb);(try clear hb2);(try clear hk);(try clear hi))|((with_reducible refine gate_dst (N:=6) rfl ?_);refine box_event ?hg (N:=6) ?hd (cs:=#[.int .i64 0,.int .i64 0]) (t:=49) ?hr ?_;(case hd=>rfl);(case hg=>rfl);(case hr=>first|(go_simp;done)|(go_simp;rfl));intro gb243 hg w14 hbox hb;have n0_:=m_ (Kd.R_below (puR HO_3.out) hb);have n1_:=m_ (l5_ (puL HB.out) hb);have n2_:=m_ (hbox);have n3_:=m_ ((by rw [hg];exact (l6_ (puL HB.out)) : w.heap.size ≤ gb243));have n4_:=m_ ((by rw [hg];exact (l6_ (puL HB.out)) : w.heap.size ≤ gb243));revert n0_ n1_ n2_ n3_ n4_;clear HO_3 HB;intro HO_3 HB BK243 GW243 GE243;clear hb hbox hg;have hcz15_0 : w14.cell? ⟨gb243,0,none⟩ = some (.int .i64 0):=(c_ BK243.out 0).trans rfl;have hcz15_1 : w14.cell? ⟨gb243,1,none⟩ = some (.int .i64 0):=(c_ BK243.out 1).trans rfl;have hfz15_0:=f_ BK243.out 0;have hfz15_1:=f_ BK243.out 1)|((with_reducible refine gate_builtin (b:=.append) (xs:=#[.tmp 27,.tmp 31]) rfl ?_);at_builtin;refine Kd.R_append k51 (w0:=w) w.heap.size rfl (.tmp 27) (.tmp 31) 37 51 (.agg #[(.int .i64 0),(.bool false),(.int .i64 0),(.int .i64 0)]) 32 rfl Tryz.underlying37 info51 rfl (by decide) (by omega) u3 x3_1 (⟨t242,true,(⟨t240,t241⟩ : S49)⟩ : S51) [.int .i64 t242,.bool true,.int .i64 t240,.int .i64 t241] (fun _=>True) (fun _=>False) rfl (by first|(go_simp;done)|(go_simp;rfl)) ?aP (fun _ hk=>hk.elim) ?aF ?aO ?aB ?aS ?aL ?_;(case aP=>exact k51_mkM _ _ _ (⟨t242,true,(⟨t240,t241⟩ : S49)⟩ : S51));(case aB=>exact (puM HB.out GE243.out));(case aF=>exact (fun _ _=>trivial));(case aO=>exact (by (with_reducible repeat (first|apply Kd.R_alloc|apply Kd.R_drewN|apply Kd.R_drew));exact Kd.R_mono (Kd.R_far (p:=⟨gb243,1,none⟩) (Kd.R_far (p:=⟨gb243,0,none⟩) (Kd.R_types HO_3.out BK243.out (by decide)) (fun _ hk=>hk.2) (.int .i64 t240)) (fun _ hk=>hk.2) (.int .i64 t241)) (fun _ hk=>trivial)));(case aS=>exact (l6_ (puM HB.out GE243.out)));(case aL=>have:=LMc12.out;omega);intro v245 w16 ho hb hg hat;rw [← Ny244.out] at ho;have n0_:=m_ (blk_grown (g:=gb243) (o:=.cells #[.int .i64 t240,.int .i64 t241] 49 (0,0)) (by (with_reducible repeat first|apply b1_|apply b2_|apply b3_);refine blk_put (cs:=#[.int .i64 t240,.int .i64 0]) ?_ 1 _ rfl;(with_reducible repeat first|apply b1_|apply b2_|apply b3_);refine blk_put (cs:=#[.int .i64 0,.int .i64 0]) ?_ 0 _ rfl;(with_reducible repeat first|apply b1_|apply b2_|apply b3_);exact BK243.out) hg (Kd.R_ne HO_3.out BK243.out (by decide)));have n1_:=m_ (hb);have n2_:=m_ (ho);revert n0_ n1_ n2_;clear BK243 HB HO_3;intro BK243 HB HO246;clear ho hb hg hat))
      go_roundg k1
      case measure=>have:=HK1.out;omega
      case rel=>exact ⟨(y244),(wrap64 (x5_1 + t242)),(by first|rfl|(simp;done)|(simp [*];done)),H',⟨by have:=HK1.out;omega⟩,⟨by (with_reducible repeat (first|apply Kd.R_alloc|apply Kd.R_drewN|apply Kd.R_drew));exact HO246.out⟩,⟨puM HB.out GE243.out⟩⟩
     ·rw [if_neg c12] at H
      exact absurd H (by simp)
    ·rw [if_neg c11] at H
     have c11b0 : decide (0 < t242) = false:=decide_eq_false c11
     clear c11
     by_cases c17 : x3_1.length < 4398046511104
     ·rw [if_pos c17] at H
      have LMc17:=m_ c17
      clear c17
      obtain ⟨y247,hy247⟩ : ∃ y_ : List (S51),y_ = (x3_1 ++ [(⟨1,false,(⟨0,0⟩ : S49)⟩ : S51)]):=⟨_,rfl⟩
      replace H : (spec_l2Pieces.l0 k1 a0 y247 (wrap64 ((a0.size : Int) - t239)) (wrap64 (x5_1 + 1))) = some r:=by first|(rw [hy247];with_reducible exact H)|(have H2_:=(Option.bind_some _ _).symm.trans H;rw [hy247];with_reducible exact H2_)|(have H2_:=(Option.bind_some _ _).symm.trans H;with_reducible exact H2_)|with_reducible exact H|(rw [hy247];exact H)|exact H
      have Ny247:=m_ hy247
      clear hy247
      have H':=m_ H
      clear H
      go_wp2_with (first|((with_reducible refine gate_callee (f:=62) rfl ?_);refine goesL_ (some 22) rfl rfl Tryz.func62 (by kernel_rfl) rfl #[.string (a0.extract (x5_1 : Int).toNat ((wrap64 ((a0.size : Int) - t239)) : Int).toNat)] rfl lens ?_;(with_reducible refine (spec_l2Name.calls k1 (a0.extract (x5_1 : Int).toNat ((wrap64 ((a0.size : Int) - t239)) : Int).toNat) t240 t241 t242 _ A10.out).mono ?_);rintro e w18 ⟨rfl,hb⟩;refine ⟨_,rfl,?_⟩;have n0_:=m_ (Kd.R_below (puR HO_3.out) hb);have n1_:=m_ (l5_ (puL HB.out) hb);revert n0_ n1_;clear HO_3 HB;intro HO_3 HB;(try clear hb);(try clear hb2);(try clear hk);(try clear hi))|((with_reducible refine gate_dst (N:=6) rfl ?_);refine box_event ?hg (N:=6) ?hd (cs:=#[.int .i64 0,.int .i64 0]) (t:=49) ?hr ?_;(case hd=>rfl);(case hg=>rfl);(case hr=>first|(go_simp;done)|(go_simp;rfl));intro gb243 hg w19 hbox hb;have n0_:=m_ (Kd.R_below (puR HO_3.out) hb);have n1_:=m_ (l5_ (puL HB.out) hb);have n2_:=m_ (hbox);have n3_:=m_ ((by rw [hg];exact (l6_ (puL HB.out)) : w.heap.size ≤ gb243));have n4_:=m_ ((by rw [hg];exact (l6_ (puL HB.out)) : w.heap.size ≤ gb243));revert n0_ n1_ n2_ n3_ n4_;clear HO_3 HB;intro HO_3 HB BK243 GW243 GE243;clear hb hbox hg;have hcz20_0 : w19.cell? ⟨gb243,0,none⟩ = some (.int .i64 0):=(c_ BK243.out 0).trans rfl;have hcz20_1 : w19.cell? ⟨gb243,1,none⟩ = some (.int .i64 0):=(c_ BK243.out 1).trans rfl;have hfz20_0:=f_ BK243.out 0;have hfz20_1:=f_ BK243.out 1)|((with_reducible refine gate_builtin (b:=.append) (xs:=#[.tmp 33,.tmp 35]) rfl ?_);at_builtin;refine Kd.R_append k51 (w0:=w) w.heap.size rfl (.tmp 33) (.tmp 35) 37 51 (.agg #[(.int .i64 0),(.bool false),(.int .i64 0),(.int .i64 0)]) 32 rfl Tryz.underlying37 info51 rfl (by decide) (by omega) u3 x3_1 (⟨1,false,(⟨0,0⟩ : S49)⟩ : S51) [.int .i64 1,.bool false,.int .i64 0,.int .i64 0] (fun _=>True) (fun _=>False) rfl (by first|(go_simp;done)|(go_simp;rfl)) ?aP (fun _ hk=>hk.elim) ?aF ?aO ?aB ?aS ?aL ?_;(case aP=>exact k51_mkM _ _ _ (⟨1,false,(⟨0,0⟩ : S49)⟩ : S51));(case aB=>exact (puM HB.out GE243.out));(case aF=>exact (fun _ _=>trivial));(case aO=>exact (by (with_reducible repeat (first|apply Kd.R_alloc|apply Kd.R_drewN|apply Kd.R_drew));exact Kd.R_mono (Kd.R_far (p:=⟨gb243,1,none⟩) (Kd.R_far (p:=⟨gb243,0,none⟩) (Kd.R_types HO_3.out BK243.out (by decide)) (fun _ hk=>hk.2) (.int .i64 t240)) (fun _ hk=>hk.2) (.int .i64 t241)) (fun _ hk=>trivial)));(case aS=>exact (l6_ (puM HB.out GE243.out)));(case aL=>have:=LMc17.out;omega);intro v248 w21 ho hb hg hat;rw [← Ny247.out] at ho;have n0_:=m_ (blk_grown (g:=gb243) (o:=.cells #[.int .i64 t240,.int .i64 t241] 49 (0,0)) (by (with_reducible repeat first|apply b1_|apply b2_|apply b3_);refine blk_put (cs:=#[.int .i64 t240,.int .i64 0]) ?_ 1 _ rfl;(with_reducible repeat first|apply b1_|apply b2_|apply b3_);refine blk_put (cs:=#[.int .i64 0,.int .i64 0]) ?_ 0 _ rfl;(with_reducible repeat first|apply b1_|apply b2_|apply b3_);exact BK243.out) hg (Kd.R_ne HO_3.out BK243.out (by decide)));have n1_:=m_ (hb);have n2_:=m_ (ho);revert n0_ n1_ n2_;clear BK243 HB HO_3;intro BK243 HB HO249;clear ho hb hg hat))
      go_roundg k1
      case measure=>have:=HK1.out;omega
      case rel=>exact ⟨(y247),(wrap64 (x5_1 + 1)),(by first|rfl|(simp;done)|(simp [*];done)),H',⟨by have:=HK1.out;omega⟩,⟨by (with_reducible repeat (first|apply Kd.R_alloc|apply Kd.R_drewN|apply Kd.R_drew));exact HO249.out⟩,⟨puM HB.out GE243.out⟩⟩
     ·rw [if_neg c17] at H
      exact absurd H (by simp)
   ·rw [if_neg c6] at H
    have c6b0 : decide (x5_1 < (wrap64 ((a0.size : Int) - t239))) = false:=decide_eq_false c6
    clear c6
    obtain rfl:=Option.some.inj H
    go_wp2
    go_ret
    exact ⟨_,eqs,puR HO_3.out,puL HB.out⟩

/-! ### spec_l11Done: function 58 -/
def spec_l11Done.l0 : Nat → Int → Int → ByteArray → List (S31) → Option (Int)
 | 0, _, _, _, _ => none
 | k + 1, x3, x4, x251000, x251001 => if x4 < (x251001.length : Int) then (if 0 ≤ x4 then (spec_l11Done.l0 k (wrap64 (x3 + ((rd_T31 x251001 x4).f0))) (wrap64 (x4 + 1)) x251000 x251001) else (none)) else (some x3)
def spec_l11Done.f (k : Nat) (a0_0 : ByteArray) (l0_1 : List (S31)) : Option (Int) := spec_l11Done.l0 k 0 0 a0_0 l0_1
theorem spec_l11Done.mono_l : ∀ k, (∀ y0 y1 y2 y3, LeO (spec_l11Done.l0 k y0 y1 y2 y3) (spec_l11Done.l0 (k + 1) y0 y1 y2 y3))
 | 0 => fun _ _ _ _ r h => by simp [spec_l11Done.l0] at h
 | k + 1 => by
  have ih0:=spec_l11Done.mono_l k
  ·intro y0 y1 y2 y3
   unfold spec_l11Done.l0
   exact leo1 ih0
theorem spec_l11Done.mono : ∀ a0 a1 k, LeO (spec_l11Done.f k a0 a1) (spec_l11Done.f (k + 1) a0 a1) := by
 intro a0 a1 k
 have ih0:=spec_l11Done.mono_l k
 unfold spec_l11Done.f
 exact leo1 ih0
theorem spec_l11Done.calls (k : Nat) (a0_0 : ByteArray) (A0_1 : Option Addr) (c0_1 : Nat) (l0_1 : List (S31)) (r : Int) (w : World) (hr0_1 : Kd.C k31 w A0_1 l0_1.length l0_1) (hc0_1 : l0_1.length ≤ c0_1) (h : spec_l11Done.f k a0_0 l0_1 = some r) :
  Calls Tryz.prog 58 #[.agg #[.string a0_0,.slice A0_1 l0_1.length c0_1]] w fun e w'=>e = .returned (.int .i64 r) ∧ Below w.heap.size w w':=by
 have hu25:=Tryz.underlying25
 have HR0_1:=m_ hr0_1
 have HC0_1:=m_ hc0_1
 clear hr0_1 hc0_1
 have HB:=m_ (Below.refl w.heap.size w)
 have H : (spec_l11Done.l0 k 0 0 a0_0 l0_1) = some r:=h
 clear h
 have H':=m_ H
 clear H
 go_enter Tryz.func58,Tryz.ntmps58
 go_wp2_with (first|((with_reducible refine gate_dst (N:=1) rfl ?_);refine box_event ?hg (N:=1) ?hd (cs:=#[.string a0_0,.slice A0_1 l0_1.length c0_1]) (t:=25) ?hr ?_;(case hd=>rfl);(case hg=>rfl);(case hr=>first|(go_simp;done)|(go_simp;rfl));intro gb250 hg w2 hbox hb;have n0_:=m_ (l5_ (puL HB.out) hb);have n1_:=m_ (hbox);have n2_:=m_ ((by rw [hg];exact (l6_ (puL HB.out)) : w.heap.size ≤ gb250));have n3_:=n2_;revert n0_ n1_ n2_ n3_;clear HB;intro HB BK250 GW250 GE250;clear hb hbox hg))
 go_loopg [3,4] k (fun kq v3 v4 w'=>∃ (x3_1 : Int) (x4_1 : Int),v3 = .int .i64 x3_1 ∧ v4 = .int .i64 x4_1 ∧ Aside0 (spec_l11Done.l0 kq x3_1 x4_1 a0_0 l0_1 = some r) ∧ Aside0 (kq ≤ k) ∧ Aside0 (w'.heap[gb250]? = some (.cells #[.string a0_0,(.slice A0_1 l0_1.length c0_1)] 25 (0,0))) ∧ Aside0 (Below w.heap.size w w'))
 case atStart=>exact ⟨(0),(0),(by first|rfl|(simp;done)|(simp [*];done)),(by first|rfl|(simp;done)|(simp [*];done)),H',⟨Nat.le_refl _⟩,⟨by (with_reducible repeat first|apply b1_|apply b2_|apply b3_);exact BK250.out⟩,⟨puM HB.out GE250.out⟩⟩
 case round =>
  clear H'
  try clear p2
  obtain ⟨x3_1,x4_1,rfl,rfl,HA,HK1,BK250,HB⟩:=hrel
  cases gk with
  | zero => exact absurd HA.out (by simp [spec_l11Done.l0])
  | succ k1 =>
   have H:=HA.out
   clear HA
   simp only [spec_l11Done.l0] at H
   by_cases c3 : x4_1 < (l0_1.length : Int)
   ·rw [if_pos c3] at H
    have c3b0 : decide (x4_1 < (l0_1.length : Int)) = true:=decide_eq_true c3
    clear c3
    by_cases c4 : 0 ≤ x4_1
    rotate_left
    ·rw [if_neg c4] at H
     exact absurd H (by simp)
    rw [if_pos c4] at H
    have c4b0 : decide (0 ≤ x4_1) = true:=decide_eq_true c4
    clear c4
    have H':=m_ H
    clear H
    have hcz5_0 : wr.cell? ⟨gb250,0,none⟩ = some (.string a0_0):=(c_ BK250.out 0).trans rfl
    have hcz5_1 : wr.cell? ⟨gb250,1,none⟩ = some (.slice A0_1 l0_1.length c0_1):=(c_ BK250.out 1).trans rfl
    have p251 : 0 ≤ (x4_1 : Int):=of_decide_eq_true asm
    have q251 : x4_1 < (l0_1.length : Int):=of_decide_eq_true asm
    obtain ⟨ad251,e251,hx251_0,hx251_1⟩:=at_T31 HR0_1.out x4_1 p251 q251
    cases e251
    replace hx251_0:=(HB.out.cell (World.block_lt_of_cell? w _ hx251_0)).trans hx251_0
    replace hx251_1:=(HB.out.cell (World.block_lt_of_cell? w _ hx251_1)).trans hx251_1
    replace p251:=eq_true p251
    replace q251:=eq_true q251
    go_wp2
    go_roundg k1
    case measure=>have:=HK1.out;omega
    case rel=>exact ⟨(wrap64 (x3_1 + ((rd_T31 l0_1 x4_1).f0))),(wrap64 (x4_1 + 1)),(by first|rfl|(simp;done)|(simp [*];done)),(by first|rfl|(simp;done)|(simp [*];done)),H',⟨by have:=HK1.out;omega⟩,⟨by (with_reducible repeat first|apply b1_|apply b2_|apply b3_);exact BK250.out⟩,⟨puM HB.out GE250.out⟩⟩
   ·rw [if_neg c3] at H
    have c3b0 : decide (x4_1 < (l0_1.length : Int)) = false:=decide_eq_false c3
    clear c3
    obtain rfl:=Option.some.inj H
    have hcz6_0 : wr.cell? ⟨gb250,0,none⟩ = some (.string a0_0):=(c_ BK250.out 0).trans rfl
    have hcz6_1 : wr.cell? ⟨gb250,1,none⟩ = some (.slice A0_1 l0_1.length c0_1):=(c_ BK250.out 1).trans rfl
    go_wp2
    go_ret
    exact ⟨eqs,puM HB.out GE250.out⟩

end Go.Proofs.YtkcjmmhleepjeaaGreatDoor.A
