-- Printed by myprint.py (wip/tools) out of the translation. Not trusted: Lean checks it.
import Derived.Test.YtkcjmmhleepjeaaDoorAx0
import Derived.Test.YtkcjmmhleepjeaaDoorAx2
import Derived.Test.YtkcjmmhleepjeaaDoorAx3
namespace Go.Proofs.YtkcjmmhleepjeaaDoor.A
open Go.RowKit Go.Proofs.YtkcjmmhleepjeaaDoorW.PrintWords Go.Proofs.YtkcjmmhleepjeaaDoorW.PrintLast Go.Proofs.YtkcjmmhleepjeaaDoorW.PrintMore
attribute [local go_sem] max2_int min2_int max_two min_two max_three min_three max_four min_four   -- for this text's walks alone
set_option linter.unusedVariables false
set_option linter.unusedSimpArgs false

/-! ### spec_EndRead: function 72 -/
def spec_EndRead.l0 : Nat → ByteArray → Int → Int → Int → Int → Option (Int × Int × Bool)
 | 0, _, _, _, _, _ => none
 | k + 1, x0, x4, x6, x152000, x152001 => if x6 < x4 then (if 0 ≤ x6 then (if x6 < (x0.size : Int) then ((spec_l1Digit.f (bt x0 x6)).bind fun t152 => (spec_EndRead.l0 k x0 x4 (wrap64 (x6 + 1)) x152000 (wrap64 ((wrap64 (10 * x152001)) + t152)))) else (none)) else (none)) else ((spec_EndText.f k x152000 x152001).bind fun t153 => (if t153.toList = x0.toList then (some (x152000, x152001, true)) else (some (0, 0, false))))
def spec_EndRead.f (k : Nat) (a0 : ByteArray) : Option (Int × Int × Bool) := (spec_l6In.f (a0.size : Int) 3 4).bind fun t149 => (if t149 = true then (if 0 < (a0.size : Int) then ((spec_l1Digit.f (bt a0 0)).bind fun t150 => (spec_EndRead.l0 k a0 (a0.size : Int) 2 t150 0)) else (none)) else (some (0, 0, false)))
theorem spec_EndRead.mono_l : ∀ k, (∀ y0 y1 y2 y3 y4, LeO (spec_EndRead.l0 k y0 y1 y2 y3 y4) (spec_EndRead.l0 (k + 1) y0 y1 y2 y3 y4))
 | 0 => fun _ _ _ _ _ r h => by simp [spec_EndRead.l0] at h
 | k + 1 => by
  have ih0:=spec_EndRead.mono_l k
  ·intro y0 y1 y2 y3 y4
   unfold spec_EndRead.l0
   repeat' first
   | (with_reducible exact ih0 _ _ _ _ _)
   | (with_reducible exact spec_EndText.mono _ _ _)
   | (with_reducible exact LeO.refl _)
   | (with_reducible exact LeO.none _)
   | (with_reducible refine LeO.ite ?_ ?_)
   | (with_reducible refine LeO.bind ?_ (fun _ => ?_))
   | exact ih0 _ _ _ _ _
   | exact spec_EndText.mono _ _ _
   | exact LeO.none _
   | refine LeO.ite ?_ ?_
   | refine LeO.bind ?_ (fun _ => ?_)
theorem spec_EndRead.mono : ∀ a0 k, LeO (spec_EndRead.f k a0) (spec_EndRead.f (k + 1) a0) := by
 intro a0 k
 have ih0:=spec_EndRead.mono_l k
 unfold spec_EndRead.f
 repeat' first
   | (with_reducible exact ih0 _ _ _ _ _)
   | (with_reducible exact spec_EndText.mono _ _ _)
   | (with_reducible exact LeO.refl _)
   | (with_reducible exact LeO.none _)
   | (with_reducible refine LeO.ite ?_ ?_)
   | (with_reducible refine LeO.bind ?_ (fun _ => ?_))
   | exact ih0 _ _ _ _ _
   | exact spec_EndText.mono _ _ _
   | exact LeO.none _
   | refine LeO.ite ?_ ?_
   | refine LeO.bind ?_ (fun _ => ?_)
def spec_EndRead.T8 : Bool × List (List Nat × List Nat) := (true, [([], []), ([0], [0]), ([1], [1]), ([], []), ([], []), ([3, 4], [3, 4]), ([5], [5]), ([2, 6], [2, 6]), ([0, 1, 2, 3, 4, 5, 6, 7], []), ([8, 7, 6, 0, 1, 2, 3, 4, 5, 6, 7], [7, 8])])
def spec_EndRead.B8 : List Nat := [0, 1, 3, 0, 0, 24, 56, 127, 255, 511]
theorem spec_EndRead.tab8 : rtab .any (opsOf Tryd.f72 8) = spec_EndRead.T8 := by kernel_rfl
theorem spec_EndRead.bits8 : waitsOk spec_EndRead.T8.2 spec_EndRead.B8 = true := by kernel_rfl
set_option maxHeartbeats 8000000 in
set_option maxRecDepth 100000 in
theorem spec_EndRead.calls (k : Nat) (a0 : ByteArray) (r1 : Int) (r2 : Int) (r3 : Bool) (w : World) (h : spec_EndRead.f k a0 = some (r1, r2, r3)) :
  Calls Tryd.prog 72 #[.string a0] w fun e w'=>e = .returned (.tuple #[.agg #[.int .i64 r1,.int .i64 r2],.bool r3]) ∧ Below w.heap.size w w':=by
 have hu43:=Tryd.underlying43
 have HB:=m_ (Below.refl w.heap.size w)
 have H : ((spec_l6In.f (a0.size : Int) 3 4).bind fun t149=>(if t149 = true then (if 0 < (a0.size : Int) then ((spec_l1Digit.f (bt a0 0)).bind fun t150=>(spec_EndRead.l0 k a0 (a0.size : Int) 2 t150 0)) else (none)) else (some (0,0,false)))) = some (r1,r2,r3):=h
 clear h
 replace H:=Option.bind_eq_some_iff.mp H
 obtain ⟨t149,A20,H⟩:=H
 replace H : (if t149 = true then (if 0 < (a0.size : Int) then ((spec_l1Digit.f (bt a0 0)).bind fun t150=>(spec_EndRead.l0 k a0 (a0.size : Int) 2 t150 0)) else (none)) else (some (0,0,false))) = some (r1,r2,r3):=H
 have A2:=m_ A20
 clear A20
 by_cases c3 : t149 = true
 ·subst c3
  have H1 : (if 0 < (a0.size : Int) then ((spec_l1Digit.f (bt a0 0)).bind fun t150=>(spec_EndRead.l0 k a0 (a0.size : Int) 2 t150 0)) else (none)) = some (r1,r2,r3):=by rw [if_pos rfl] at H;exact H
  clear H
  have H:=H1
  clear H1
  by_cases c4 : 0 < (a0.size : Int)
  ·rw [if_pos c4] at H
   have c4b0 : decide (0 < (a0.size : Int)) = true:=decide_eq_true c4
   have c4b1 : decide (0 < a0.size) = true:=decide_eq_true (by omega)
   clear c4
   replace H:=Option.bind_eq_some_iff.mp H
   obtain ⟨t150,A60,H⟩:=H
   replace H : (spec_EndRead.l0 k a0 (a0.size : Int) 2 t150 0) = some (r1,r2,r3):=H
   have A6:=m_ A60
   clear A60
   have H':=m_ H
   clear H
   go_enter Tryd.func72,Tryd.ntmps72
   go_wp2_with (first|((with_reducible refine gate_dst (N:=2) rfl ?_);refine box_event ?hg (N:=2) ?hd (cs:=#[.int .i64 0,.int .i64 0]) (t:=43) ?hr ?_;(case hd=>rfl);(case hg=>rfl);(case hr=>first|(go_simp;done)|(go_simp;rfl));intro gb148 hg w7 hbox hb;have n0_:=m_ (l5_ (by repeat (first|(with_reducible first|exact HB.out|apply l1_|apply l2_|apply l3_)|exact HB.out)) hb);have n1_:=m_ (hbox);have n2_:=m_ ((by rw [hg];exact (l6_ (by repeat (first|(with_reducible first|exact HB.out|apply l1_|apply l2_|apply l3_)|exact HB.out))) : w.heap.size ≤ gb148));have n3_:=m_ ((by rw [hg];exact (l6_ (by repeat (first|(with_reducible first|exact HB.out|apply l1_|apply l2_|apply l3_)|exact HB.out))) : w.heap.size ≤ gb148));clear HB;have HB:=n0_;have BK148:=n1_;have GW148:=n2_;have GE148:=n3_;clear n0_ n1_ n2_ n3_;clear hb hbox hg)|((with_reducible refine gate_callee (f:=31) rfl ?_);refine goesL_ (some 10) rfl rfl Tryd.func31 (by kernel_rfl) rfl #[.int .i64 (a0.size : Int),.int .i64 3,.int .i64 4] rfl (by (try simp only [List.map_toArray,List.map_cons,List.map_nil]);first|done|rfl|(simp only [List.length_drop,List.length_take];rfl)) ?_;(with_reducible refine (spec_l6In.calls (a0.size : Int) 3 4 true _ A2.out).mono ?_);rintro e w' ⟨rfl,⟨nd,rfl⟩⟩;refine ⟨_,rfl,?_⟩;(try (rw [drewN_self w7];generalize hq_ : World.drewN w7 _ = w7;have n0_ : Aside0 (w7.heap[gb148]? = some (.cells #[.int .i64 0,.int .i64 0] 43 (0,0))):=⟨by rw [← hq_];exact (by (with_reducible repeat first|apply b1_|apply b2_|apply b3_);exact BK148.out)⟩;have n1_ : Aside0 (Below w.heap.size w w7):=⟨by rw [← hq_];exact (by repeat (first|(with_reducible first|exact HB.out|apply l1_|apply l2_|apply l3_|refine l4_ ?_ GE148.out)|exact HB.out))⟩;clear BK148 HB hq_;have BK148:=n0_;have HB:=n1_;clear n0_ n1_));have p5 : 0 ≤ (0 : Int):=(by omega);have q5 : 0 < a0.size:=(by have : (0 : Int) < (a0.size : Int):=of_decide_eq_true (by first|(with_reducible assumption)|assumption);omega);have hx5 : ∀ h : 0 < a0.size,((a0[0]'h).toNat : Int) = bt a0 0:=bt_at a0 0;clear p5;have qi5 : (0 < (a0.size : Int)) = True:=eq_true (of_decide_eq_true (by first|(with_reducible assumption)|assumption));replace q5:=eq_true q5)|((with_reducible refine gate_callee (f:=83) rfl ?_);refine goesL_ (some 15) rfl rfl Tryd.func83 (by kernel_rfl) rfl #[.int .u8 (bt a0 0)] rfl (by (try simp only [List.map_toArray,List.map_cons,List.map_nil]);first|done|rfl|(simp only [List.length_drop,List.length_take];rfl)) ?_;(with_reducible refine (spec_l1Digit.calls (bt a0 0) t150 _ A6.out).mono ?_);rintro e w' ⟨rfl,⟨nd,rfl⟩⟩;refine ⟨_,rfl,?_⟩;(try (rw [drewN_self w7];generalize hq_ : World.drewN w7 _ = w7;have n0_ : Aside0 (w7.heap[gb148]? = some (.cells #[.int .i64 0,.int .i64 0] 43 (0,0))):=⟨by rw [← hq_];exact (by (with_reducible repeat first|apply b1_|apply b2_|apply b3_);exact BK148.out)⟩;have n1_ : Aside0 (Below w.heap.size w w7):=⟨by rw [← hq_];exact (by repeat (first|(with_reducible first|exact HB.out|apply l1_|apply l2_|apply l3_|refine l4_ ?_ GE148.out)|exact HB.out))⟩;clear BK148 HB hq_;have BK148:=n0_;have HB:=n1_;clear n0_ n1_)))|((with_reducible refine gate_dst (N:=5) rfl ?_);refine box_event ?hg (N:=5) ?hd (cs:=#[.int .i64 0,.int .i64 0]) (t:=43) ?hr ?_;(case hd=>rfl);(case hg=>rfl);(case hr=>first|(go_simp;done)|(go_simp;rfl));intro gb151 hg w8 hbox hb;have n0_:=m_ (blk_below (g:=gb148) (o:=.cells #[.int .i64 0,.int .i64 0] 43 (0,0)) (by (with_reducible repeat first|apply b1_|apply b2_|apply b3_);exact BK148.out) hb);have n1_:=m_ (l5_ (by repeat (first|(with_reducible first|exact HB.out|apply l1_|apply l2_|apply l3_|refine l4_ ?_ GE148.out)|exact HB.out)) hb);have n2_:=m_ (hbox);have n3_:=m_ ((by rw [hg];exact (l6_ (by repeat (first|(with_reducible first|exact HB.out|apply l1_|apply l2_|apply l3_|refine l4_ ?_ GE148.out)|exact HB.out))) : w.heap.size ≤ gb151));have n4_:=n3_;have n5_:=m_ ((by rw [hg];exact Nat.ne_of_lt (blk_lt (g:=gb148) (o:=.cells #[.int .i64 0,.int .i64 0] 43 (0,0)) (by (with_reducible repeat first|apply b1_|apply b2_|apply b3_);exact BK148.out)) : gb148 ≠ gb151));have n6_:=m_ n5_.out.symm;clear BK148;clear HB;have BK148:=n0_;have HB:=n1_;have BK151:=n2_;have GW151:=n3_;have GE151:=n4_;have NB148_151:=n5_;have NB151_148:=n6_;clear n0_ n1_ n2_ n3_ n4_ n5_ n6_;clear hb hbox hg;have hnb9:=NB151_148.out;have hnc9:=NB148_151.out;have hcz10_0 : w8.cell? ⟨gb151,0,none⟩ = some (.int .i64 0):=(c_ BK151.out 0).trans rfl;have hcz10_1 : w8.cell? ⟨gb151,1,none⟩ = some (.int .i64 0):=(c_ BK151.out 1).trans rfl;have hfz10_0:=f_ BK151.out 0;have hfz10_1:=f_ BK151.out 1))
   go_loopg [6] k (fun kq v6 w'=>∃ (x6_1 : Int) (x152001_1 : Int),v6 = .int .i64 x6_1 ∧ Aside0 (spec_EndRead.l0 kq a0 (a0.size : Int) x6_1 t150 x152001_1 = some (r1,r2,r3)) ∧ Aside0 (kq ≤ k) ∧ Aside0 (w'.heap[gb148]? = some (.cells #[.int .i64 0,.int .i64 0] 43 (0,0))) ∧ Aside0 (w'.heap[gb151]? = some (.cells #[.int .i64 t150,.int .i64 x152001_1] 43 (0,0))) ∧ Aside0 (Below w.heap.size w w'))
   case atStart=>exact ⟨(2),(0),(by first|rfl|(simp;done)|(simp [*];done)),H',⟨Nat.le_refl _⟩,⟨by (with_reducible repeat first|apply b1_|apply b2_|apply b3_);refine b4_ ?_ NB148_151.out _;(with_reducible repeat first|apply b1_|apply b2_|apply b3_);refine b4_ ?_ NB148_151.out _;(with_reducible repeat first|apply b1_|apply b2_|apply b3_);exact BK148.out⟩,⟨by (with_reducible repeat first|apply b1_|apply b2_|apply b3_);refine blk_put (cs:=#[.int .i64 t150,.int .i64 0]) ?_ 1 _ rfl;(with_reducible repeat first|apply b1_|apply b2_|apply b3_);refine blk_put (cs:=#[.int .i64 0,.int .i64 0]) ?_ 0 _ rfl;(with_reducible repeat first|apply b1_|apply b2_|apply b3_);exact BK151.out⟩,⟨by repeat (first|(with_reducible first|exact HB.out|apply l1_|apply l2_|apply l3_|refine l4_ ?_ GE148.out|refine l4_ ?_ GE151.out)|exact HB.out)⟩⟩
   case round =>
    clear H'
    try clear p2
    try clear c3
    try clear c4
    try clear c4b0
    try clear c4b1
    try clear p5
    try clear q5
    try clear hx5
    try clear qi5
    try clear c7
    try clear c8
    try clear c9
    try clear hcz10_0
    try clear hcz10_1
    try clear hfz10_0
    try clear hfz10_1
    try clear p5
    try clear q5
    obtain ⟨x6_1,x152001_1,rfl,HA,HK1,BK148,BK151,HB⟩:=hrel
    cases gk with
    | zero => exact absurd HA.out (by simp [spec_EndRead.l0])
    | succ k1 =>
     have H:=HA.out
     clear HA
     simp only [spec_EndRead.l0] at H
     by_cases c11 : x6_1 < (a0.size : Int)
     ·rw [if_pos c11] at H
      have c11b0 : decide (x6_1 < (a0.size : Int)) = true:=decide_eq_true c11
      clear c11
      by_cases c12 : 0 ≤ x6_1
      ·rw [if_pos c12] at H
       have c12b0 : decide (0 ≤ x6_1) = true:=decide_eq_true c12
       clear c12
       by_cases c13 : x6_1 < (a0.size : Int)
       ·rw [if_pos c13] at H
        have c13b0 : decide (x6_1 < (a0.size : Int)) = true:=decide_eq_true c13
        clear c13
        replace H:=Option.bind_eq_some_iff.mp H
        obtain ⟨t152,A150,H⟩:=H
        replace H : (spec_EndRead.l0 k1 a0 (a0.size : Int) (wrap64 (x6_1 + 1)) t150 (wrap64 ((wrap64 (10 * x152001_1)) + t152))) = some (r1,r2,r3):=H
        have A15:=m_ A150
        clear A150
        have H':=m_ H
        clear H
        try go_wp2
        have n0_:=m_ (b2_ BK148.out)
        have n1_:=m_ (b2_ BK151.out)
        have n2_:=m_ (l3_ HB.out)
        clear BK148
        clear BK151
        clear HB
        have BK148:=n0_
        have BK151:=n1_
        have HB:=n2_
        clear n0_ n1_ n2_
        have p14 : 0 ≤ (x6_1 : Int):=of_decide_eq_true (by first|(with_reducible assumption)|assumption)
        have q14 : x6_1 < (a0.size : Int):=of_decide_eq_true (by first|(with_reducible assumption)|assumption)
        have hx14:=bt_at a0 x6_1
        replace p14:=eq_true p14
        replace q14:=eq_true q14
        refine start_ (n:=10) (S:=fun w'=>w'.cell? ⟨gb151,0,none⟩ = some (.int .i64 t150) ∧ w'.cell? ⟨gb151,1,none⟩ = some (.int .i64 x152001_1)) (ds:=[9]) #[false,false,false,false,false,false,false,false,false,false] (by kernel_rfl) rfl rfl ⟨(c_ BK151.out 0).trans rfl,(c_ BK151.out 1).trans rfl⟩ (fun hHeld=>?_);refine with_tabW spec_EndRead.tab8 spec_EndRead.bits8 (fun HT_ HW_=>?_)
        generalize wr.drew = w16 at BK148 BK151 HB hHeld ⊢
        refine pure_ (i:=0) (N:=some 22) (v:=?_) (a':=?_) #[true,false,false,false,false,false,false,false,false,false] rfl rfl (any_of HT_.out (by kernel_rfl)) (fun _ _ _ h=>h) (Or.inl ⟨by rfl,?_⟩) ?_ ?_
        rotate_left
        ·intro w'
         go_simp
         with_reducible rfl
        rotate_left
        ·simp only [Act.put,s1_,s2_,s3_,i64_w,i32_w]
         rfl
        refine pure_ (i:=3) (N:=some 25) (v:=?_) (a':=?_) #[true,false,false,true,false,false,false,false,false,false] rfl rfl (any_of HT_.out (by kernel_rfl)) (fun _ _ _ h=>h) (Or.inl ⟨by rfl,?_⟩) ?_ ?_
        rotate_left
        ·intro w'
         go_simp
         with_reducible rfl
        rotate_left
        ·simp only [Act.put,s1_,s2_,s3_,i64_w,i32_w]
         rfl
        refine pure_ (i:=4) (N:=some 26) (v:=?_) (a':=?_) #[true,false,false,true,true,false,false,false,false,false] rfl rfl (any_of HT_.out (by kernel_rfl)) (fun _ _ _ h=>h) (Or.inl ⟨by rfl,?_⟩) ?_ ?_
        rotate_left
        ·intro w'
         go_simp
         with_reducible rfl
        rotate_left
        ·simp only [Act.put,s1_,s2_,s3_,i64_w,i32_w]
         rfl
        refine take_ (i:=1) (N:=some 23) (v:=?_) (a':=?_) #[true,true,false,true,true,false,false,false,false,false] rfl rfl (take_ofW HT_.out HW_.out (by kernel_rfl)) (fun _ _ _ h=>h) (Or.inl ⟨by rfl,?_⟩) hHeld ?_ ?_
        rotate_left
        ·rintro w' ⟨s0,s1⟩
         go_simp
         with_reducible rfl
        rotate_left
        ·simp only [Act.put,s1_,s2_,s3_,i64_w,i32_w]
         rfl
        refine pure_ (i:=2) (N:=some 24) (v:=?_) (a':=?_) #[true,true,true,true,true,false,false,false,false,false] rfl rfl (any_of HT_.out (by kernel_rfl)) (fun _ _ _ h=>h) (Or.inl ⟨by rfl,?_⟩) ?_ ?_
        rotate_left
        ·intro w'
         go_simp
         with_reducible rfl
        rotate_left
        ·simp only [Act.put,s1_,s2_,s3_,i64_w,i32_w]
         rfl
        refine take_ (i:=5) (N:=some 27) (v:=?_) (a':=?_) #[true,true,true,true,true,true,false,false,false,false] rfl rfl (take_ofW HT_.out HW_.out (by kernel_rfl)) (fun _ _ _ h=>h) (Or.inl ⟨by rfl,?_⟩) hHeld ?_ ?_
        rotate_left
        ·rintro w' ⟨s0,s1⟩
         go_simp
         with_reducible rfl
        rotate_left
        ·simp only [Act.put,s1_,s2_,s3_,i64_w,i32_w]
         rfl
        refine one_ (i:=6) (N:=some 28) #[true,true,true,true,true,true,true,false,false,false] rfl rfl (one_of HT_.out (by kernel_rfl)) (by decide) (fun K hK=>?_)
        refine goes_ Tryd.func83 (by kernel_rfl) rfl #[.int .u8 (bt a0 x6_1)] (by rfl) rfl rfl (by (try simp only [List.map_toArray,List.map_cons,List.map_nil]);first|done|rfl|(simp only [List.length_drop,List.length_take];rfl)) ?_
        with_reducible refine (spec_l1Digit.calls (bt a0 x6_1) t152 _ A15.out).mono ?_
        rintro e w' ⟨rfl,⟨nd,rfl⟩⟩
        refine ⟨_,rfl,?_⟩
        refine hK.out _ _ ⟨(c_ BK151.out 0).trans rfl,(c_ BK151.out 1).trans rfl⟩ (fun hHeld=>?_)
        clear hK K
        refine norm_ (a':=?_) ?_ ?_
        rotate_left
        ·show Act.put _ (some 28) _ = _
         simp only [Act.put,s1_,s2_,s3_,i64_w,i32_w]
         rfl
        refine pure_ (i:=7) (N:=some 29) (v:=?_) (a':=?_) #[true,true,true,true,true,true,true,true,false,false] rfl rfl (any_of HT_.out (by kernel_rfl)) (fun _ _ _ h=>h) (Or.inl ⟨by rfl,?_⟩) ?_ ?_
        rotate_left
        ·intro w'
         go_simp
         with_reducible rfl
        rotate_left
        ·simp only [Act.put,s1_,s2_,s3_,i64_w,i32_w]
         rfl
        refine pure_ (i:=8) (N:=some 30) (v:=?_) (a':=?_) #[true,true,true,true,true,true,true,true,true,false] rfl rfl (any_of HT_.out (by kernel_rfl)) (fun _ _ _ h=>h) (Or.inl ⟨by rfl,?_⟩) ?_ ?_
        rotate_left
        ·intro w'
         go_simp
         with_reducible rfl
        rotate_left
        ·simp only [Act.put,s1_,s2_,s3_,i64_w,i32_w]
         rfl
        refine last_ (i:=9) (N:=none) #[true,true,true,true,true,true,true,true,true,true] rfl rfl (one_of HT_.out (by kernel_rfl)) (by decide) (fun K hK=>?_)
        have hs17 : w16.cell? ⟨gb151,1,none⟩ = some (.int .i64 x152001_1):=(c_ BK151.out 1).trans rfl
        have hfs17:=f_ BK151.out 1
        have hns17_0:=NB148_151.out
        have hms17_0:=NB151_148.out
        refine skip_ (w1:=?_) (by rfl) rfl ?_ ?_
        rotate_left
        ·go_simp
         rfl
        refine hK.out _ _ ?_
        clear hK K
        refine done_ (done_of HT_.out (by kernel_rfl)) ?_
        try go_wp2
        go_roundg k1
        case measure=>have:=HK1.out;omega
        case rel=>exact ⟨(wrap64 (x6_1 + 1)),(wrap64 ((wrap64 (10 * x152001_1)) + t152)),(by first|rfl|(simp;done)|(simp [*];done)),H',⟨by have:=HK1.out;omega⟩,⟨by (with_reducible repeat first|apply b1_|apply b2_|apply b3_);refine b4_ ?_ NB148_151.out _;(with_reducible repeat first|apply b1_|apply b2_|apply b3_);exact BK148.out⟩,⟨by (with_reducible repeat first|apply b1_|apply b2_|apply b3_);refine blk_put (cs:=#[.int .i64 t150,.int .i64 x152001_1]) ?_ 1 _ rfl;(with_reducible repeat first|apply b1_|apply b2_|apply b3_);exact BK151.out⟩,⟨by repeat (first|(with_reducible first|exact HB.out|apply l1_|apply l2_|apply l3_|refine l4_ ?_ GE148.out|refine l4_ ?_ GE151.out)|exact HB.out)⟩⟩
       ·rw [if_neg c13] at H
        exact absurd H (by simp)
      ·rw [if_neg c12] at H
       exact absurd H (by simp)
     ·rw [if_neg c11] at H
      have c11b0 : decide (x6_1 < (a0.size : Int)) = false:=decide_eq_false c11
      clear c11
      replace H:=Option.bind_eq_some_iff.mp H
      obtain ⟨t153,A180,H⟩:=H
      replace H : (if t153.toList = a0.toList then (some (t150,x152001_1,true)) else (some (0,0,false))) = some (r1,r2,r3):=H
      have A18:=m_ A180
      clear A180
      by_cases c19 : t153.toList = a0.toList
      ·rw [if_pos c19] at H
       have c19b0 : (t153.toList == a0.toList) = true:=beq_iff_eq.mpr c19
       have c19b1 : (t153.toList != a0.toList) = false:=bne_eq_false_iff_eq.mpr c19
       clear c19
       simp only [Option.some.injEq,Prod.mk.injEq] at H
       obtain ⟨rfl,rfl,rfl⟩:=H
       have hnb20:=NB151_148.out
       have hnc20:=NB148_151.out
       have hcz21_0 : wr.cell? ⟨gb151,0,none⟩ = some (.int .i64 t150):=(c_ BK151.out 0).trans rfl
       have hcz21_1 : wr.cell? ⟨gb151,1,none⟩ = some (.int .i64 x152001_1):=(c_ BK151.out 1).trans rfl
       have hfz21_0:=f_ BK151.out 0
       have hfz21_1:=f_ BK151.out 1
       go_wp2_with (first|((with_reducible refine gate_callee (f:=67) rfl ?_);refine goesL_ (some 32) rfl rfl Tryd.func67 (by kernel_rfl) rfl #[.agg #[.int .i64 t150,.int .i64 x152001_1]] rfl (by (try simp only [List.map_toArray,List.map_cons,List.map_nil]);first|done|rfl|(simp only [List.length_drop,List.length_take];rfl)) ?_;(with_reducible refine (spec_EndText.calls k1 t150 x152001_1 t153 _ A18.out).mono ?_);rintro e w22 ⟨rfl,hb⟩;refine ⟨_,rfl,?_⟩;have n0_:=m_ (blk_below (g:=gb148) (o:=.cells #[.int .i64 0,.int .i64 0] 43 (0,0)) (by (with_reducible repeat first|apply b1_|apply b2_|apply b3_);exact BK148.out) hb);have n1_:=m_ (blk_below (g:=gb151) (o:=.cells #[.int .i64 t150,.int .i64 x152001_1] 43 (0,0)) (by (with_reducible repeat first|apply b1_|apply b2_|apply b3_);exact BK151.out) hb);have n2_:=m_ (l5_ (by repeat (first|(with_reducible first|exact HB.out|apply l1_|apply l2_|apply l3_|refine l4_ ?_ GE148.out|refine l4_ ?_ GE151.out)|exact HB.out)) hb);clear BK148;clear BK151;clear HB;have BK148:=n0_;have BK151:=n1_;have HB:=n2_;clear n0_ n1_ n2_;(try clear hb);(try clear hb2);(try clear hk);(try clear hi);have hcz23_0 : w22.cell? ⟨gb151,0,none⟩ = some (.int .i64 t150):=(c_ BK151.out 0).trans rfl;have hcz23_1 : w22.cell? ⟨gb151,1,none⟩ = some (.int .i64 x152001_1):=(c_ BK151.out 1).trans rfl;have hfz23_0:=f_ BK151.out 0;have hfz23_1:=f_ BK151.out 1;have hcz24_0 : w22.cell? ⟨gb148,0,none⟩ = some (.int .i64 0):=(c_ BK148.out 0).trans rfl;have hcz24_1 : w22.cell? ⟨gb148,1,none⟩ = some (.int .i64 0):=(c_ BK148.out 1).trans rfl;have hfz24_0:=f_ BK148.out 0;have hfz24_1:=f_ BK148.out 1))
       refine bodyPost_ret (results_ct rfl _ _ gb148 43 #[.int .i64 t150,.int .i64 x152001_1] (0,0) _ rfl (by (with_reducible repeat first|apply b1_|apply b2_|apply b3_);refine blk_put (cs:=#[.int .i64 t150,.int .i64 0]) ?_ 1 _ rfl;(with_reducible repeat first|apply b1_|apply b2_|apply b3_);refine blk_put (cs:=#[.int .i64 0,.int .i64 0]) ?_ 0 _ rfl;(with_reducible repeat first|apply b1_|apply b2_|apply b3_);exact BK148.out) Tryd.underlying43 rfl (by kernel_rfl)) rfl ?_
       exact ⟨by first|rfl|(simp [e1_,e2_] <;> rfl)|(simp [*,e1_,e2_] <;> rfl)|(simp [e1_,e2_,pk_empty1,pk_empty2];done)|(simp [*,e1_,e2_,pk_empty1,pk_empty2];done),by repeat (first|(with_reducible first|exact HB.out|apply l1_|apply l2_|apply l3_|refine l4_ ?_ GE148.out|refine l4_ ?_ GE151.out)|exact HB.out)⟩
      ·rw [if_neg c19] at H
       have c19b0 : (t153.toList == a0.toList) = false:=beq_eq_false_iff_ne.mpr c19
       have c19b1 : (t153.toList != a0.toList) = true:=bne_iff_ne.mpr c19
       simp only [Option.some.injEq,Prod.mk.injEq] at H
       obtain ⟨rfl,rfl,rfl⟩:=H
       have hnb25:=NB151_148.out
       have hnc25:=NB148_151.out
       have hcz26_0 : wr.cell? ⟨gb151,0,none⟩ = some (.int .i64 t150):=(c_ BK151.out 0).trans rfl
       have hcz26_1 : wr.cell? ⟨gb151,1,none⟩ = some (.int .i64 x152001_1):=(c_ BK151.out 1).trans rfl
       have hfz26_0:=f_ BK151.out 0
       have hfz26_1:=f_ BK151.out 1
       go_wp2_with (first|((with_reducible refine gate_callee (f:=67) rfl ?_);refine goesL_ (some 32) rfl rfl Tryd.func67 (by kernel_rfl) rfl #[.agg #[.int .i64 t150,.int .i64 x152001_1]] rfl (by (try simp only [List.map_toArray,List.map_cons,List.map_nil]);first|done|rfl|(simp only [List.length_drop,List.length_take];rfl)) ?_;(with_reducible refine (spec_EndText.calls k1 t150 x152001_1 t153 _ A18.out).mono ?_);rintro e w27 ⟨rfl,hb⟩;refine ⟨_,rfl,?_⟩;have n0_:=m_ (blk_below (g:=gb148) (o:=.cells #[.int .i64 0,.int .i64 0] 43 (0,0)) (by (with_reducible repeat first|apply b1_|apply b2_|apply b3_);exact BK148.out) hb);have n1_:=m_ (blk_below (g:=gb151) (o:=.cells #[.int .i64 t150,.int .i64 x152001_1] 43 (0,0)) (by (with_reducible repeat first|apply b1_|apply b2_|apply b3_);exact BK151.out) hb);have n2_:=m_ (l5_ (by repeat (first|(with_reducible first|exact HB.out|apply l1_|apply l2_|apply l3_|refine l4_ ?_ GE148.out|refine l4_ ?_ GE151.out)|exact HB.out)) hb);clear BK148;clear BK151;clear HB;have BK148:=n0_;have BK151:=n1_;have HB:=n2_;clear n0_ n1_ n2_;(try clear hb);(try clear hb2);(try clear hk);(try clear hi);have hcz28_0 : w27.cell? ⟨gb148,0,none⟩ = some (.int .i64 0):=(c_ BK148.out 0).trans rfl;have hcz28_1 : w27.cell? ⟨gb148,1,none⟩ = some (.int .i64 0):=(c_ BK148.out 1).trans rfl;have hfz28_0:=f_ BK148.out 0;have hfz28_1:=f_ BK148.out 1))
       refine bodyPost_ret (results_ct rfl _ _ gb148 43 #[.int .i64 0,.int .i64 0] (0,0) _ rfl (by (with_reducible repeat first|apply b1_|apply b2_|apply b3_);refine blk_put (cs:=#[.int .i64 0,.int .i64 0]) ?_ 1 _ rfl;(with_reducible repeat first|apply b1_|apply b2_|apply b3_);refine blk_put (cs:=#[.int .i64 0,.int .i64 0]) ?_ 0 _ rfl;(with_reducible repeat first|apply b1_|apply b2_|apply b3_);exact BK148.out) Tryd.underlying43 rfl (by kernel_rfl)) rfl ?_
       exact ⟨by first|rfl|(simp [e1_,e2_] <;> rfl)|(simp [*,e1_,e2_] <;> rfl)|(simp [e1_,e2_,pk_empty1,pk_empty2];done)|(simp [*,e1_,e2_,pk_empty1,pk_empty2];done),by repeat (first|(with_reducible first|exact HB.out|apply l1_|apply l2_|apply l3_|refine l4_ ?_ GE148.out|refine l4_ ?_ GE151.out)|exact HB.out)⟩
  ·rw [if_neg c4] at H
   exact absurd H (by simp)
 ·replace c3:=Bool.eq_false_iff.mpr c3
  subst c3
  have H1 : (some (0,0,false)) = some (r1,r2,r3):=by rw [if_neg (show ¬ (false = true) by decide)] at H;exact H
  clear H
  have H:=H1
  clear H1
  simp only [Option.some.injEq,Prod.mk.injEq] at H
  obtain ⟨rfl,rfl,rfl⟩:=H
  go_enter Tryd.func72,Tryd.ntmps72
  go_wp2_with (first|((with_reducible refine gate_dst (N:=2) rfl ?_);refine box_event ?hg (N:=2) ?hd (cs:=#[.int .i64 0,.int .i64 0]) (t:=43) ?hr ?_;(case hd=>rfl);(case hg=>rfl);(case hr=>first|(go_simp;done)|(go_simp;rfl));intro gb148 hg w29 hbox hb;have n0_:=m_ (l5_ (by repeat (first|(with_reducible first|exact HB.out|apply l1_|apply l2_|apply l3_)|exact HB.out)) hb);have n1_:=m_ (hbox);have n2_:=m_ ((by rw [hg];exact (l6_ (by repeat (first|(with_reducible first|exact HB.out|apply l1_|apply l2_|apply l3_)|exact HB.out))) : w.heap.size ≤ gb148));have n3_:=m_ ((by rw [hg];exact (l6_ (by repeat (first|(with_reducible first|exact HB.out|apply l1_|apply l2_|apply l3_)|exact HB.out))) : w.heap.size ≤ gb148));clear HB;have HB:=n0_;have BK148:=n1_;have GW148:=n2_;have GE148:=n3_;clear n0_ n1_ n2_ n3_;clear hb hbox hg)|((with_reducible refine gate_callee (f:=31) rfl ?_);refine goesL_ (some 10) rfl rfl Tryd.func31 (by kernel_rfl) rfl #[.int .i64 (a0.size : Int),.int .i64 3,.int .i64 4] rfl (by (try simp only [List.map_toArray,List.map_cons,List.map_nil]);first|done|rfl|(simp only [List.length_drop,List.length_take];rfl)) ?_;(with_reducible refine (spec_l6In.calls (a0.size : Int) 3 4 false _ A2.out).mono ?_);rintro e w' ⟨rfl,⟨nd,rfl⟩⟩;refine ⟨_,rfl,?_⟩;(try (rw [drewN_self w29];generalize hq_ : World.drewN w29 _ = w29;have n0_ : Aside0 (w29.heap[gb148]? = some (.cells #[.int .i64 0,.int .i64 0] 43 (0,0))):=⟨by rw [← hq_];exact (by (with_reducible repeat first|apply b1_|apply b2_|apply b3_);exact BK148.out)⟩;have n1_ : Aside0 (Below w.heap.size w w29):=⟨by rw [← hq_];exact (by repeat (first|(with_reducible first|exact HB.out|apply l1_|apply l2_|apply l3_|refine l4_ ?_ GE148.out)|exact HB.out))⟩;clear BK148 HB hq_;have BK148:=n0_;have HB:=n1_;clear n0_ n1_));have hcz30_0 : w29.cell? ⟨gb148,0,none⟩ = some (.int .i64 0):=(c_ BK148.out 0).trans rfl;have hcz30_1 : w29.cell? ⟨gb148,1,none⟩ = some (.int .i64 0):=(c_ BK148.out 1).trans rfl;have hfz30_0:=f_ BK148.out 0;have hfz30_1:=f_ BK148.out 1))
  refine bodyPost_ret (results_ct rfl _ _ gb148 43 #[.int .i64 0,.int .i64 0] (0,0) _ rfl (by (with_reducible repeat first|apply b1_|apply b2_|apply b3_);refine blk_put (cs:=#[.int .i64 0,.int .i64 0]) ?_ 1 _ rfl;(with_reducible repeat first|apply b1_|apply b2_|apply b3_);refine blk_put (cs:=#[.int .i64 0,.int .i64 0]) ?_ 0 _ rfl;(with_reducible repeat first|apply b1_|apply b2_|apply b3_);exact BK148.out) Tryd.underlying43 rfl (by kernel_rfl)) rfl ?_
  exact ⟨by first|rfl|(simp [e1_,e2_] <;> rfl)|(simp [*,e1_,e2_] <;> rfl)|(simp [e1_,e2_,pk_empty1,pk_empty2];done)|(simp [*,e1_,e2_,pk_empty1,pk_empty2];done),by repeat (first|(with_reducible first|exact HB.out|apply l1_|apply l2_|apply l3_|refine l4_ ?_ GE148.out)|exact HB.out)⟩

/-! ### spec_l2Name: function 58 -/
mutual
def spec_l2Name.l0 : Nat → ByteArray → Int → Option (Int × Int × Int)
 | 0, _, _ => none
 | k + 1, x0, x4 => if x4 ≤ 6 then (spec_l2Name.j1 k x0 x4 (decide (x4 ≤ (x0.size : Int)))) else (spec_l2Name.j1 k x0 x4 false)
def spec_l2Name.j1 : Nat → ByteArray → Int → Bool → Option (Int × Int × Int)
 | 0, _, _, _ => none
 | k + 1, x0, x4, x14 => if x14 = true then (if 0 < (x0.size : Int) then (if (bt x0 0) = 64 then (if 0 ≤ (wrap64 (x4 - 1)) then (if (wrap64 (x4 - 1)) < (x0.size : Int) then (spec_l2Name.j2 k x0 x4 ((bt x0 (wrap64 (x4 - 1))) == 59)) else (none)) else (none)) else (spec_l2Name.j2 k x0 x4 false)) else (none)) else (some (0, 0, 0))
def spec_l2Name.j2 : Nat → ByteArray → Int → Bool → Option (Int × Int × Int)
 | 0, _, _, _ => none
 | k + 1, x0, x4, x26 => if x26 = true then (if 1 ≤ (wrap64 (x4 - 1)) then (if (wrap64 (x4 - 1)) ≤ (x0.size : Int) then ((spec_EndRead.f k (x0.extract 1 ((wrap64 (x4 - 1)) : Int).toNat)).bind fun bt155 => (if bt155.2.2 = true then (some (bt155.1, bt155.2.1, x4)) else (spec_l2Name.l0 k x0 (wrap64 (x4 + 1))))) else (none)) else (none)) else (spec_l2Name.l0 k x0 (wrap64 (x4 + 1)))
end
def spec_l2Name.f (k : Nat) (a0 : ByteArray) : Option (Int × Int × Int) := spec_l2Name.l0 k a0 5
theorem spec_l2Name.mono_l : ∀ k, (∀ y0 y1, LeO (spec_l2Name.l0 k y0 y1) (spec_l2Name.l0 (k + 1) y0 y1)) ∧ (∀ y0 y1 y2, LeO (spec_l2Name.j1 k y0 y1 y2) (spec_l2Name.j1 (k + 1) y0 y1 y2)) ∧ (∀ y0 y1 y2, LeO (spec_l2Name.j2 k y0 y1 y2) (spec_l2Name.j2 (k + 1) y0 y1 y2))
 | 0 => ⟨fun _ _ r h => by simp [spec_l2Name.l0] at h, fun _ _ _ r h => by simp [spec_l2Name.j1] at h, fun _ _ _ r h => by simp [spec_l2Name.j2] at h⟩
 | k + 1 => by
  obtain ⟨ih0,ih1,ih2⟩:=spec_l2Name.mono_l k
  refine ⟨?_,?_,?_⟩
  ·intro y0 y1
   unfold spec_l2Name.l0
   repeat' first
   | (with_reducible exact ih0 _ _)
   | (with_reducible exact ih1 _ _ _)
   | (with_reducible exact ih2 _ _ _)
   | (with_reducible exact spec_EndRead.mono _ _)
   | (with_reducible exact LeO.refl _)
   | (with_reducible exact LeO.none _)
   | (with_reducible refine LeO.ite ?_ ?_)
   | (with_reducible refine LeO.bind ?_ (fun _ => ?_))
   | exact ih0 _ _
   | exact ih1 _ _ _
   | exact ih2 _ _ _
   | exact spec_EndRead.mono _ _
   | exact LeO.none _
   | refine LeO.ite ?_ ?_
   | refine LeO.bind ?_ (fun _ => ?_)
  ·intro y0 y1 y2
   unfold spec_l2Name.j1
   repeat' first
   | (with_reducible exact ih0 _ _)
   | (with_reducible exact ih1 _ _ _)
   | (with_reducible exact ih2 _ _ _)
   | (with_reducible exact spec_EndRead.mono _ _)
   | (with_reducible exact LeO.refl _)
   | (with_reducible exact LeO.none _)
   | (with_reducible refine LeO.ite ?_ ?_)
   | (with_reducible refine LeO.bind ?_ (fun _ => ?_))
   | exact ih0 _ _
   | exact ih1 _ _ _
   | exact ih2 _ _ _
   | exact spec_EndRead.mono _ _
   | exact LeO.none _
   | refine LeO.ite ?_ ?_
   | refine LeO.bind ?_ (fun _ => ?_)
  ·intro y0 y1 y2
   unfold spec_l2Name.j2
   repeat' first
   | (with_reducible exact ih0 _ _)
   | (with_reducible exact ih1 _ _ _)
   | (with_reducible exact ih2 _ _ _)
   | (with_reducible exact spec_EndRead.mono _ _)
   | (with_reducible exact LeO.refl _)
   | (with_reducible exact LeO.none _)
   | (with_reducible refine LeO.ite ?_ ?_)
   | (with_reducible refine LeO.bind ?_ (fun _ => ?_))
   | exact ih0 _ _
   | exact ih1 _ _ _
   | exact ih2 _ _ _
   | exact spec_EndRead.mono _ _
   | exact LeO.none _
   | refine LeO.ite ?_ ?_
   | refine LeO.bind ?_ (fun _ => ?_)
theorem spec_l2Name.mono : ∀ a0 k, LeO (spec_l2Name.f k a0) (spec_l2Name.f (k + 1) a0) := by
 intro a0 k
 obtain ⟨ih0,ih1,ih2⟩:=spec_l2Name.mono_l k
 unfold spec_l2Name.f
 repeat' first
   | (with_reducible exact ih0 _ _)
   | (with_reducible exact ih1 _ _ _)
   | (with_reducible exact ih2 _ _ _)
   | (with_reducible exact spec_EndRead.mono _ _)
   | (with_reducible exact LeO.refl _)
   | (with_reducible exact LeO.none _)
   | (with_reducible refine LeO.ite ?_ ?_)
   | (with_reducible refine LeO.bind ?_ (fun _ => ?_))
   | exact ih0 _ _
   | exact ih1 _ _ _
   | exact ih2 _ _ _
   | exact spec_EndRead.mono _ _
   | exact LeO.none _
   | refine LeO.ite ?_ ?_
   | refine LeO.bind ?_ (fun _ => ?_)
set_option maxHeartbeats 8000000 in
set_option maxRecDepth 100000 in
theorem spec_l2Name.calls (k : Nat) (a0 : ByteArray) (r1 : Int) (r2 : Int) (r3 : Int) (w : World) (h : spec_l2Name.f k a0 = some (r1, r2, r3)) :
  Calls Tryd.prog 58 #[.string a0] w fun e w'=>e = .returned (.tuple #[.agg #[.int .i64 r1,.int .i64 r2],.int .i64 r3]) ∧ Below w.heap.size w w':=by
 have hu43:=Tryd.underlying43
 have HB:=m_ (Below.refl w.heap.size w)
 have H : (spec_l2Name.l0 k a0 5) = some (r1,r2,r3):=h
 clear h
 have H':=m_ H
 clear H
 go_enter Tryd.func58,Tryd.ntmps58
 go_wp2_with (first|((with_reducible refine gate_dst (N:=2) rfl ?_);(try (refine gate_guard (by rfl) ?_;dsimp only));refine box_event ?hg (N:=2) ?hd (cs:=#[.int .i64 0,.int .i64 0]) (t:=43) ?hr ?_;(case hd=>rfl);(case hg=>rfl);(case hr=>first|(go_simp;done)|(go_simp;rfl));intro gb154 hg w2 hbox hb;have n0_:=m_ (l5_ (by repeat (first|(with_reducible first|exact HB.out|apply l1_|apply l2_|apply l3_)|exact HB.out)) hb);have n1_:=m_ (hbox);have n2_:=m_ ((by rw [hg];exact (l6_ (by repeat (first|(with_reducible first|exact HB.out|apply l1_|apply l2_|apply l3_)|exact HB.out))) : w.heap.size ≤ gb154));have n3_:=n2_;clear HB;have HB:=n0_;have BK154:=n1_;have GW154:=n2_;have GE154:=n3_;clear n0_ n1_ n2_ n3_;clear hb hbox hg))
 go_loopg [4] k (fun kq v4 w'=>∃ (x4_1 : Int) (x155000_1 : Int) (x155001_1 : Int),v4 = .int .i64 x4_1 ∧ Aside0 (spec_l2Name.l0 kq a0 x4_1 = some (r1,r2,r3)) ∧ Aside0 (kq ≤ k) ∧ Aside0 (w'.heap[gb154]? = some (.cells #[.int .i64 x155000_1,.int .i64 x155001_1] 43 (0,0))) ∧ Aside0 (Below w.heap.size w w'))
 case atStart=>exact ⟨(5),(0),(0),(by first|rfl|(simp;done)|(simp [*];done)),H',⟨Nat.le_refl _⟩,⟨by (with_reducible repeat first|apply b1_|apply b2_|apply b3_);exact BK154.out⟩,⟨by repeat (first|(with_reducible first|exact HB.out|apply l1_|apply l2_|apply l3_|refine l4_ ?_ GE154.out)|exact HB.out)⟩⟩
 case round =>
  clear H'
  try clear p2
  obtain ⟨x4_1,x155000_1,x155001_1,rfl,HA,HK1,BK154,HB⟩:=hrel
  cases gk with
  | zero => exact absurd HA.out (by simp [spec_l2Name.l0])
  | succ k1 =>
   have H:=HA.out
   clear HA
   simp only [spec_l2Name.l0] at H
   have HC3:=m_ H
   clear H
   go_upto_region 2 with (fail)
   go_cut [14] (fun v14 wc=>∃ (kq : Nat) (x14_2 : Bool),v14 = .bool x14_2 ∧ Aside0 (spec_l2Name.j1 kq a0 x4_1 x14_2 = some (r1,r2,r3)) ∧ Aside0 (kq ≤ k1) ∧ Aside0 (wc.heap[gb154]? = some (.cells #[.int .i64 x155000_1,.int .i64 x155001_1] 43 (0,0))) ∧ Aside0 (Below w.heap.size w wc))
   case first =>
    have H:=HC3.out
    clear HC3
    by_cases c4 : x4_1 ≤ 6
    ·rw [if_pos c4] at H
     have c4b0 : decide (x4_1 ≤ 6) = true:=decide_eq_true c4
     clear c4
     (first|rw [c4b0]|(simp only [i64_w,i32_w];rw [c4b0])|skip)
     have H':=m_ H
     clear H
     go_wp2
     go_meet
     case rel=>exact ⟨_,(decide (x4_1 ≤ (a0.size : Int))),(by first|rfl|(simp;done)|(simp [*];done)),H',⟨by have:=HK1.out;first|omega|exact Nat.le_refl _⟩,⟨by (with_reducible repeat first|apply b1_|apply b2_|apply b3_);exact BK154.out⟩,⟨by repeat (first|(with_reducible first|exact HB.out|apply l1_|apply l2_|apply l3_|refine l4_ ?_ GE154.out)|exact HB.out)⟩⟩
    ·rw [if_neg c4] at H
     have c4b0 : decide (x4_1 ≤ 6) = false:=decide_eq_false c4
     clear c4
     (first|rw [c4b0]|(simp only [i64_w,i32_w];rw [c4b0])|skip)
     have H':=m_ H
     clear H
     go_wp2
     go_meet
     case rel=>exact ⟨_,(false),(by first|rfl|(simp;done)|(simp [*];done)),H',⟨by have:=HK1.out;first|omega|exact Nat.le_refl _⟩,⟨by (with_reducible repeat first|apply b1_|apply b2_|apply b3_);exact BK154.out⟩,⟨by repeat (first|(with_reducible first|exact HB.out|apply l1_|apply l2_|apply l3_|refine l4_ ?_ GE154.out)|exact HB.out)⟩⟩
   case rest =>
    clear HC3
    try clear p2
    try clear c4
    try clear c4b0
    try clear p2
    obtain ⟨kq,x14_2,rfl,HA,HJ2,BK154,HB⟩:=hcut
    cases kq with
    | zero => exact absurd HA.out (by simp [spec_l2Name.j1])
    | succ kj2 =>
     have H:=HA.out
     clear HA
     simp only [spec_l2Name.j1] at H
     by_cases c5 : x14_2 = true
     ·subst c5
      have H1 : (if 0 < (a0.size : Int) then (if (bt a0 0) = 64 then (if 0 ≤ (wrap64 (x4_1 - 1)) then (if (wrap64 (x4_1 - 1)) < (a0.size : Int) then (spec_l2Name.j2 kj2 a0 x4_1 ((bt a0 (wrap64 (x4_1 - 1))) == 59)) else (none)) else (none)) else (spec_l2Name.j2 kj2 a0 x4_1 false)) else (none)) = some (r1,r2,r3):=by rw [if_pos rfl] at H;exact H
      clear H
      have H:=H1
      clear H1
      have HC6:=m_ H
      clear H
      go_upto_region 4 with (fail)
      go_cut [26] (fun v26 wc=>∃ (kq : Nat) (x26_5 : Bool),v26 = .bool x26_5 ∧ Aside0 (spec_l2Name.j2 kq a0 x4_1 x26_5 = some (r1,r2,r3)) ∧ Aside0 (kq ≤ kj2) ∧ Aside0 (wc.heap[gb154]? = some (.cells #[.int .i64 x155000_1,.int .i64 x155001_1] 43 (0,0))) ∧ Aside0 (Below w.heap.size w wc))
      case first =>
       have H:=HC6.out
       clear HC6
       by_cases c7 : 0 < (a0.size : Int)
       ·rw [if_pos c7] at H
        have c7b0 : decide (0 < (a0.size : Int)) = true:=decide_eq_true c7
        have c7b1 : decide (0 < a0.size) = true:=decide_eq_true (by omega)
        clear c7
        (first|rw [c7b0]|(simp only [i64_w,i32_w];rw [c7b0])|skip)
        by_cases c9 : (bt a0 0) = 64
        ·rw [if_pos c9] at H
         have c9b0 : ((bt a0 0) == 64) = true:=beq_iff_eq.mpr c9
         have c9b1 : ((bt a0 0) != 64) = false:=bne_eq_false_iff_eq.mpr c9
         clear c9
         obtain ⟨ji10,hji10⟩ : ∃ j_ : Int,(wrap64 (x4_1 - 1)) = j_:=⟨_,rfl⟩
         replace H : (if 0 ≤ (ji10) then (if (ji10) < (a0.size : Int) then (spec_l2Name.j2 kj2 a0 x4_1 ((bt a0 (ji10)) == 59)) else (none)) else (none)) = some (r1,r2,r3):=by first|(rw [hji10] at H;exact H)|(simp only [hji10] at H ⊢;exact H)
         have hji10w : (IntKind.i64.wrap (x4_1 - 1)) = ji10:=(i64_w _).trans hji10
         by_cases c11 : 0 ≤ (ji10)
         ·rw [if_pos c11] at H
          have c11b0 : decide (0 ≤ (ji10)) = true:=decide_eq_true c11
          clear c11
          by_cases c12 : (ji10) < (a0.size : Int)
          ·rw [if_pos c12] at H
           have c12b0 : decide ((ji10) < (a0.size : Int)) = true:=decide_eq_true c12
           clear c12
           have H':=m_ H
           clear H
           have p8 : 0 ≤ (0 : Int):=(by omega)
           have q8 : 0 < a0.size:=(by have : (0 : Int) < (a0.size : Int):=of_decide_eq_true (by first|(with_reducible assumption)|assumption);omega)
           have hx8 : ∀ h : 0 < a0.size,((a0[0]'h).toNat : Int) = bt a0 0:=bt_at a0 0
           clear p8
           have qi8 : (0 < (a0.size : Int)) = True:=eq_true (of_decide_eq_true (by first|(with_reducible assumption)|assumption))
           replace q8:=eq_true q8
           have p13 : 0 ≤ ((ji10) : Int):=of_decide_eq_true (by first|(with_reducible assumption)|assumption)
           have q13 : (ji10) < (a0.size : Int):=of_decide_eq_true (by first|(with_reducible assumption)|assumption)
           have hx13:=bt_at a0 (ji10)
           replace p13:=eq_true p13
           replace q13:=eq_true q13
           go_wp2
           go_meet
           case rel=>exact ⟨_,(((bt a0 (ji10)) == 59)),(by first|rfl|(simp;done)|(simp only [← hji10] <;> (first|rfl|simp))|(simp [*];done)),H',⟨by have:=HK1.out;have:=HJ2.out;first|omega|exact Nat.le_refl _⟩,⟨by (with_reducible repeat first|apply b1_|apply b2_|apply b3_);exact BK154.out⟩,⟨by repeat (first|(with_reducible first|exact HB.out|apply l1_|apply l2_|apply l3_|refine l4_ ?_ GE154.out)|exact HB.out)⟩⟩
          ·rw [if_neg c12] at H
           exact absurd H (by simp)
         ·rw [if_neg c11] at H
          exact absurd H (by simp)
        ·rw [if_neg c9] at H
         have c9b0 : ((bt a0 0) == 64) = false:=beq_eq_false_iff_ne.mpr c9
         have c9b1 : ((bt a0 0) != 64) = true:=bne_iff_ne.mpr c9
         have H':=m_ H
         clear H
         have p8 : 0 ≤ (0 : Int):=(by omega)
         have q8 : 0 < a0.size:=(by have : (0 : Int) < (a0.size : Int):=of_decide_eq_true (by first|(with_reducible assumption)|assumption);omega)
         have hx8 : ∀ h : 0 < a0.size,((a0[0]'h).toNat : Int) = bt a0 0:=bt_at a0 0
         clear p8
         have qi8 : (0 < (a0.size : Int)) = True:=eq_true (of_decide_eq_true (by first|(with_reducible assumption)|assumption))
         replace q8:=eq_true q8
         go_wp2
         go_meet
         case rel=>exact ⟨_,(false),(by first|rfl|(simp;done)|(simp [*];done)),H',⟨by have:=HK1.out;have:=HJ2.out;first|omega|exact Nat.le_refl _⟩,⟨by (with_reducible repeat first|apply b1_|apply b2_|apply b3_);exact BK154.out⟩,⟨by repeat (first|(with_reducible first|exact HB.out|apply l1_|apply l2_|apply l3_|refine l4_ ?_ GE154.out)|exact HB.out)⟩⟩
       ·rw [if_neg c7] at H
        exact absurd H (by simp)
      case rest =>
       clear HC6
       try clear c1
       try clear p1
       try clear q1
       try clear hx1
       try clear p2
       try clear c4
       try clear c4b0
       try clear c5
       try clear p6
       try clear c7
       try clear c7b0
       try clear c7b1
       try clear p8
       try clear q8
       try clear hx8
       try clear qi8
       try clear c9
       try clear c9b0
       try clear c9b1
       try clear c11
       try clear c11b0
       try clear c12
       try clear c12b0
       try clear p13
       try clear q13
       try clear hx13
       try clear p13
       try clear p2
       try clear p8
       try clear q13
       try clear q8
       obtain ⟨kq,x26_5,rfl,HA,HJ5,BK154,HB⟩:=hcut
       cases kq with
       | zero => exact absurd HA.out (by simp [spec_l2Name.j2])
       | succ kj5 =>
        have H:=HA.out
        clear HA
        simp only [spec_l2Name.j2] at H
        by_cases c14 : x26_5 = true
        ·subst c14
         have H1 : (if 1 ≤ (wrap64 (x4_1 - 1)) then (if (wrap64 (x4_1 - 1)) ≤ (a0.size : Int) then ((spec_EndRead.f kj5 (a0.extract 1 ((wrap64 (x4_1 - 1)) : Int).toNat)).bind fun bt155=>(if bt155.2.2 = true then (some (bt155.1,bt155.2.1,x4_1)) else (spec_l2Name.l0 kj5 a0 (wrap64 (x4_1 + 1))))) else (none)) else (none)) = some (r1,r2,r3):=by rw [if_pos rfl] at H;exact H
         clear H
         have H:=H1
         clear H1
         by_cases c15 : 1 ≤ (wrap64 (x4_1 - 1))
         ·rw [if_pos c15] at H
          have c15b0:=eq_true c15
          have c15b1 : decide (1 ≤ (wrap64 (x4_1 - 1))) = true:=decide_eq_true c15
          clear c15
          by_cases c16 : (wrap64 (x4_1 - 1)) ≤ (a0.size : Int)
          ·rw [if_pos c16] at H
           have c16b0:=eq_true c16
           have c16b1 : decide ((wrap64 (x4_1 - 1)) ≤ (a0.size : Int)) = true:=decide_eq_true c16
           clear c16
           replace H:=Option.bind_eq_some_iff.mp H
           obtain ⟨⟨t155,t156,t157⟩,A170,H⟩:=H
           replace H : (if t157 = true then (some (t155,t156,x4_1)) else (spec_l2Name.l0 kj5 a0 (wrap64 (x4_1 + 1)))) = some (r1,r2,r3):=H
           have A17:=m_ A170
           clear A170
           by_cases c18 : t157 = true
           ·subst c18
            have H1 : (some (t155,t156,x4_1)) = some (r1,r2,r3):=by rw [if_pos rfl] at H;exact H
            clear H
            have H:=H1
            clear H1
            simp only [Option.some.injEq,Prod.mk.injEq] at H
            obtain ⟨rfl,rfl,rfl⟩:=H
            go_wp2_with (first|((with_reducible refine gate_callee (f:=72) rfl ?_);refine goesL_ (some 32) rfl rfl Tryd.func72 (by kernel_rfl) rfl #[.string (a0.extract 1 ((wrap64 (x4_1 - 1)) : Int).toNat)] rfl (by (try simp only [List.map_toArray,List.map_cons,List.map_nil]);first|done|rfl|(simp only [List.length_drop,List.length_take];rfl)) ?_;(with_reducible refine (spec_EndRead.calls kj5 (a0.extract 1 ((wrap64 (x4_1 - 1)) : Int).toNat) t155 t156 true _ A17.out).mono ?_);rintro e w19 ⟨rfl,hb⟩;refine ⟨_,rfl,?_⟩;have n0_:=m_ (blk_below (g:=gb154) (o:=.cells #[.int .i64 x155000_1,.int .i64 x155001_1] 43 (0,0)) (by (with_reducible repeat first|apply b1_|apply b2_|apply b3_);exact BK154.out) hb);have n1_:=m_ (l5_ (by repeat (first|(with_reducible first|exact HB.out|apply l1_|apply l2_|apply l3_|refine l4_ ?_ GE154.out)|exact HB.out)) hb);clear BK154;clear HB;have BK154:=n0_;have HB:=n1_;clear n0_ n1_;(try clear hb);(try clear hb2);(try clear hk);(try clear hi))|((with_reducible refine gate_dst (N:=5) rfl ?_);(try (refine gate_guard (by rfl) ?_;dsimp only));refine box_event ?hg (N:=5) ?hd (cs:=#[.int .i64 0,.int .i64 0]) (t:=43) ?hr ?_;(case hd=>rfl);(case hg=>rfl);(case hr=>first|(go_simp;done)|(go_simp;rfl));intro gb158 hg w20 hbox hb;have n0_:=m_ (blk_below (g:=gb154) (o:=.cells #[.int .i64 x155000_1,.int .i64 x155001_1] 43 (0,0)) (by (with_reducible repeat first|apply b1_|apply b2_|apply b3_);exact BK154.out) hb);have n1_:=m_ (l5_ (by repeat (first|(with_reducible first|exact HB.out|apply l1_|apply l2_|apply l3_|refine l4_ ?_ GE154.out)|exact HB.out)) hb);have n2_:=m_ (hbox);have n3_:=m_ ((by rw [hg];exact (l6_ (by repeat (first|(with_reducible first|exact HB.out|apply l1_|apply l2_|apply l3_|refine l4_ ?_ GE154.out)|exact HB.out))) : w.heap.size ≤ gb158));have n4_:=n3_;have n5_:=m_ ((by rw [hg];exact Nat.ne_of_lt (blk_lt (g:=gb154) (o:=.cells #[.int .i64 x155000_1,.int .i64 x155001_1] 43 (0,0)) (by (with_reducible repeat first|apply b1_|apply b2_|apply b3_);exact BK154.out)) : gb154 ≠ gb158));have n6_:=m_ n5_.out.symm;clear BK154;clear HB;have BK154:=n0_;have HB:=n1_;have BK158:=n2_;have GW158:=n3_;have GE158:=n4_;have NB154_158:=n5_;have NB158_154:=n6_;clear n0_ n1_ n2_ n3_ n4_ n5_ n6_;clear hb hbox hg;have hnb21:=NB158_154.out;have hnc21:=NB154_158.out;have hcz22_0 : w20.cell? ⟨gb158,0,none⟩ = some (.int .i64 0):=(c_ BK158.out 0).trans rfl;have hcz22_1 : w20.cell? ⟨gb158,1,none⟩ = some (.int .i64 0):=(c_ BK158.out 1).trans rfl;have hfz22_0:=f_ BK158.out 0;have hfz22_1:=f_ BK158.out 1;have hcz23_0 : w20.cell? ⟨gb154,0,none⟩ = some (.int .i64 x155000_1):=(c_ BK154.out 0).trans rfl;have hcz23_1 : w20.cell? ⟨gb154,1,none⟩ = some (.int .i64 x155001_1):=(c_ BK154.out 1).trans rfl;have hfz23_0:=f_ BK154.out 0;have hfz23_1:=f_ BK154.out 1))
            refine bodyPost_ret (results_ct rfl _ _ gb154 43 #[.int .i64 t155,.int .i64 t156] (0,0) _ rfl (by (with_reducible repeat first|apply b1_|apply b2_|apply b3_);refine blk_put (cs:=#[.int .i64 t155,.int .i64 x155001_1]) ?_ 1 _ rfl;(with_reducible repeat first|apply b1_|apply b2_|apply b3_);refine blk_put (cs:=#[.int .i64 x155000_1,.int .i64 x155001_1]) ?_ 0 _ rfl;(with_reducible repeat first|apply b1_|apply b2_|apply b3_);refine b4_ ?_ NB154_158.out _;(with_reducible repeat first|apply b1_|apply b2_|apply b3_);refine b4_ ?_ NB154_158.out _;(with_reducible repeat first|apply b1_|apply b2_|apply b3_);exact BK154.out) Tryd.underlying43 rfl (by kernel_rfl)) rfl ?_
            exact ⟨by first|rfl|(simp [e1_,e2_] <;> rfl)|(simp [*,e1_,e2_] <;> rfl)|(simp [e1_,e2_,pk_empty1,pk_empty2];done)|(simp [*,e1_,e2_,pk_empty1,pk_empty2];done),by repeat (first|(with_reducible first|exact HB.out|apply l1_|apply l2_|apply l3_|refine l4_ ?_ GE154.out|refine l4_ ?_ GE158.out)|exact HB.out)⟩
           ·replace c18:=Bool.eq_false_iff.mpr c18
            subst c18
            have H1 : (spec_l2Name.l0 kj5 a0 (wrap64 (x4_1 + 1))) = some (r1,r2,r3):=by rw [if_neg (show ¬ (false = true) by decide)] at H;exact H
            clear H
            have H:=H1
            clear H1
            have H':=m_ H
            clear H
            go_wp2_with (first|((with_reducible refine gate_callee (f:=72) rfl ?_);refine goesL_ (some 32) rfl rfl Tryd.func72 (by kernel_rfl) rfl #[.string (a0.extract 1 ((wrap64 (x4_1 - 1)) : Int).toNat)] rfl (by (try simp only [List.map_toArray,List.map_cons,List.map_nil]);first|done|rfl|(simp only [List.length_drop,List.length_take];rfl)) ?_;(with_reducible refine (spec_EndRead.calls kj5 (a0.extract 1 ((wrap64 (x4_1 - 1)) : Int).toNat) t155 t156 false _ A17.out).mono ?_);rintro e w24 ⟨rfl,hb⟩;refine ⟨_,rfl,?_⟩;have n0_:=m_ (blk_below (g:=gb154) (o:=.cells #[.int .i64 x155000_1,.int .i64 x155001_1] 43 (0,0)) (by (with_reducible repeat first|apply b1_|apply b2_|apply b3_);exact BK154.out) hb);have n1_:=m_ (l5_ (by repeat (first|(with_reducible first|exact HB.out|apply l1_|apply l2_|apply l3_|refine l4_ ?_ GE154.out)|exact HB.out)) hb);clear BK154;clear HB;have BK154:=n0_;have HB:=n1_;clear n0_ n1_;(try clear hb);(try clear hb2);(try clear hk);(try clear hi))|((with_reducible refine gate_dst (N:=5) rfl ?_);(try (refine gate_guard (by rfl) ?_;dsimp only));refine box_event ?hg (N:=5) ?hd (cs:=#[.int .i64 0,.int .i64 0]) (t:=43) ?hr ?_;(case hd=>rfl);(case hg=>rfl);(case hr=>first|(go_simp;done)|(go_simp;rfl));intro gb158 hg w25 hbox hb;have n0_:=m_ (blk_below (g:=gb154) (o:=.cells #[.int .i64 x155000_1,.int .i64 x155001_1] 43 (0,0)) (by (with_reducible repeat first|apply b1_|apply b2_|apply b3_);exact BK154.out) hb);have n1_:=m_ (l5_ (by repeat (first|(with_reducible first|exact HB.out|apply l1_|apply l2_|apply l3_|refine l4_ ?_ GE154.out)|exact HB.out)) hb);have n2_:=m_ (hbox);have n3_:=m_ ((by rw [hg];exact (l6_ (by repeat (first|(with_reducible first|exact HB.out|apply l1_|apply l2_|apply l3_|refine l4_ ?_ GE154.out)|exact HB.out))) : w.heap.size ≤ gb158));have n4_:=n3_;have n5_:=m_ ((by rw [hg];exact Nat.ne_of_lt (blk_lt (g:=gb154) (o:=.cells #[.int .i64 x155000_1,.int .i64 x155001_1] 43 (0,0)) (by (with_reducible repeat first|apply b1_|apply b2_|apply b3_);exact BK154.out)) : gb154 ≠ gb158));have n6_:=m_ n5_.out.symm;clear BK154;clear HB;have BK154:=n0_;have HB:=n1_;have BK158:=n2_;have GW158:=n3_;have GE158:=n4_;have NB154_158:=n5_;have NB158_154:=n6_;clear n0_ n1_ n2_ n3_ n4_ n5_ n6_;clear hb hbox hg;have hnb26:=NB158_154.out;have hnc26:=NB154_158.out;have hcz27_0 : w25.cell? ⟨gb158,0,none⟩ = some (.int .i64 0):=(c_ BK158.out 0).trans rfl;have hcz27_1 : w25.cell? ⟨gb158,1,none⟩ = some (.int .i64 0):=(c_ BK158.out 1).trans rfl;have hfz27_0:=f_ BK158.out 0;have hfz27_1:=f_ BK158.out 1))
            go_roundg kj5
            case measure=>have:=HK1.out;have:=HJ2.out;have:=HJ5.out;omega
            case rel=>exact ⟨(wrap64 (x4_1 + 1)),(x155000_1),(x155001_1),(by first|rfl|(simp;done)|(simp [*];done)),H',⟨by have:=HK1.out;have:=HJ2.out;have:=HJ5.out;omega⟩,⟨by (with_reducible repeat first|apply b1_|apply b2_|apply b3_);refine b4_ ?_ NB154_158.out _;(with_reducible repeat first|apply b1_|apply b2_|apply b3_);refine b4_ ?_ NB154_158.out _;(with_reducible repeat first|apply b1_|apply b2_|apply b3_);exact BK154.out⟩,⟨by repeat (first|(with_reducible first|exact HB.out|apply l1_|apply l2_|apply l3_|refine l4_ ?_ GE154.out|refine l4_ ?_ GE158.out)|exact HB.out)⟩⟩
          ·rw [if_neg c16] at H
           exact absurd H (by simp)
         ·rw [if_neg c15] at H
          exact absurd H (by simp)
        ·replace c14:=Bool.eq_false_iff.mpr c14
         subst c14
         have H1 : (spec_l2Name.l0 kj5 a0 (wrap64 (x4_1 + 1))) = some (r1,r2,r3):=by rw [if_neg (show ¬ (false = true) by decide)] at H;exact H
         clear H
         have H:=H1
         clear H1
         have H':=m_ H
         clear H
         go_wp2
         go_roundg kj5
         case measure=>have:=HK1.out;have:=HJ2.out;have:=HJ5.out;omega
         case rel=>exact ⟨(wrap64 (x4_1 + 1)),(x155000_1),(x155001_1),(by first|rfl|(simp;done)|(simp [*];done)),H',⟨by have:=HK1.out;have:=HJ2.out;have:=HJ5.out;omega⟩,⟨by (with_reducible repeat first|apply b1_|apply b2_|apply b3_);exact BK154.out⟩,⟨by repeat (first|(with_reducible first|exact HB.out|apply l1_|apply l2_|apply l3_|refine l4_ ?_ GE154.out)|exact HB.out)⟩⟩
     ·replace c5:=Bool.eq_false_iff.mpr c5
      subst c5
      have H1 : (some (0,0,0)) = some (r1,r2,r3):=by rw [if_neg (show ¬ (false = true) by decide)] at H;exact H
      clear H
      have H:=H1
      clear H1
      simp only [Option.some.injEq,Prod.mk.injEq] at H
      obtain ⟨rfl,rfl,rfl⟩:=H
      have hcz28_0 : wc.cell? ⟨gb154,0,none⟩ = some (.int .i64 x155000_1):=(c_ BK154.out 0).trans rfl
      have hcz28_1 : wc.cell? ⟨gb154,1,none⟩ = some (.int .i64 x155001_1):=(c_ BK154.out 1).trans rfl
      have hfz28_0:=f_ BK154.out 0
      have hfz28_1:=f_ BK154.out 1
      go_wp2
      refine bodyPost_ret (results_ct rfl _ _ gb154 43 #[.int .i64 0,.int .i64 0] (0,0) _ rfl (by (with_reducible repeat first|apply b1_|apply b2_|apply b3_);refine blk_put (cs:=#[.int .i64 0,.int .i64 x155001_1]) ?_ 1 _ rfl;(with_reducible repeat first|apply b1_|apply b2_|apply b3_);refine blk_put (cs:=#[.int .i64 x155000_1,.int .i64 x155001_1]) ?_ 0 _ rfl;(with_reducible repeat first|apply b1_|apply b2_|apply b3_);exact BK154.out) Tryd.underlying43 rfl (by kernel_rfl)) rfl ?_
      exact ⟨by first|rfl|(simp [e1_,e2_] <;> rfl)|(simp [*,e1_,e2_] <;> rfl)|(simp [e1_,e2_,pk_empty1,pk_empty2];done)|(simp [*,e1_,e2_,pk_empty1,pk_empty2];done),by repeat (first|(with_reducible first|exact HB.out|apply l1_|apply l2_|apply l3_|refine l4_ ?_ GE154.out)|exact HB.out)⟩

/-! ### spec_l2Pieces: function 41 -/
def spec_l2Pieces.l0 : Nat → ByteArray → List (S45) → Int → Int → Option ((List (S45)))
 | 0, _, _, _, _ => none
 | k + 1, x0, x3, x4, x5 => if x5 < x4 then (if 0 ≤ x5 then (if x5 ≤ x4 then (if x4 ≤ (x0.size : Int) then ((spec_l2Name.f k (x0.extract (x5 : Int).toNat (x4 : Int).toNat)).bind fun bt163 => (if bt163.2.2 > 0 then (if x3.length < 4398046511104 then (spec_l2Pieces.l0 k x0 (x3 ++ [(⟨bt163.2.2, true, (⟨bt163.1, bt163.2.1⟩ : S43)⟩ : S45)]) x4 (wrap64 (x5 + bt163.2.2))) else (none)) else (if x3.length < 4398046511104 then (spec_l2Pieces.l0 k x0 (x3 ++ [(⟨1, false, (⟨0, 0⟩ : S43)⟩ : S45)]) x4 (wrap64 (x5 + 1))) else (none)))) else (none)) else (none)) else (none)) else (some x3)
def spec_l2Pieces.f (k : Nat) (a0 : ByteArray) : Option ((List (S45))) := (spec_l2Held.f k a0).bind fun t162 => (spec_l2Pieces.l0 k a0 (([] : List (S45))) (wrap64 ((a0.size : Int) - t162)) 0)
theorem spec_l2Pieces.mono_l : ∀ k, (∀ y0 y1 y2 y3, LeO (spec_l2Pieces.l0 k y0 y1 y2 y3) (spec_l2Pieces.l0 (k + 1) y0 y1 y2 y3))
 | 0 => fun _ _ _ _ r h => by simp [spec_l2Pieces.l0] at h
 | k + 1 => by
  have ih0:=spec_l2Pieces.mono_l k
  ·intro y0 y1 y2 y3
   unfold spec_l2Pieces.l0
   repeat' first
   | (with_reducible exact ih0 _ _ _ _)
   | (with_reducible exact spec_l2Held.mono _ _)
   | (with_reducible exact spec_l2Name.mono _ _)
   | (with_reducible exact LeO.refl _)
   | (with_reducible exact LeO.none _)
   | (with_reducible refine LeO.ite ?_ ?_)
   | (with_reducible refine LeO.bind ?_ (fun _ => ?_))
   | exact ih0 _ _ _ _
   | exact spec_l2Held.mono _ _
   | exact spec_l2Name.mono _ _
   | exact LeO.none _
   | refine LeO.ite ?_ ?_
   | refine LeO.bind ?_ (fun _ => ?_)
theorem spec_l2Pieces.mono : ∀ a0 k, LeO (spec_l2Pieces.f k a0) (spec_l2Pieces.f (k + 1) a0) := by
 intro a0 k
 have ih0:=spec_l2Pieces.mono_l k
 unfold spec_l2Pieces.f
 repeat' first
   | (with_reducible exact ih0 _ _ _ _)
   | (with_reducible exact spec_l2Held.mono _ _)
   | (with_reducible exact spec_l2Name.mono _ _)
   | (with_reducible exact LeO.refl _)
   | (with_reducible exact LeO.none _)
   | (with_reducible refine LeO.ite ?_ ?_)
   | (with_reducible refine LeO.bind ?_ (fun _ => ?_))
   | exact ih0 _ _ _ _
   | exact spec_l2Held.mono _ _
   | exact spec_l2Name.mono _ _
   | exact LeO.none _
   | refine LeO.ite ?_ ?_
   | refine LeO.bind ?_ (fun _ => ?_)
set_option maxHeartbeats 8000000 in
set_option maxRecDepth 100000 in
theorem spec_l2Pieces.calls (k : Nat) (a0 : ByteArray) (r : List (S45)) (w : World) (h : spec_l2Pieces.f k a0 = some r) :
  Calls Tryd.prog 41 #[.string a0] w fun e w'=>∃ v0_ : Value,e = .returned (v0_) ∧ Kd.R k45 45 w' w.heap.size (fun _=>True) v0_ r ∧ Below w.heap.size w w':=by
 have hu43:=Tryd.underlying43
 have hu45:=Tryd.underlying45
 have HB:=m_ (Below.refl w.heap.size w)
 have H : ((spec_l2Held.f k a0).bind fun t162=>(spec_l2Pieces.l0 k a0 (([] : List (S45))) (wrap64 ((a0.size : Int) - t162)) 0)) = some r:=h
 clear h
 obtain ⟨y159,hy159⟩ : ∃ y_ : List (S45),y_ = (([] : List (S45))):=⟨_,rfl⟩
 replace H : ((spec_l2Held.f k a0).bind fun t162=>(spec_l2Pieces.l0 k a0 y159 (wrap64 ((a0.size : Int) - t162)) 0)) = some r:=by first|(rw [hy159];with_reducible exact H)|(have H2_:=(Option.bind_some _ _).symm.trans H;rw [hy159];with_reducible exact H2_)|(have H2_:=(Option.bind_some _ _).symm.trans H;with_reducible exact H2_)|with_reducible exact H|(rw [hy159];exact H)|exact H
 have Ny159:=m_ hy159
 clear hy159
 replace H:=Option.bind_eq_some_iff.mp H
 obtain ⟨t162,A20,H⟩:=H
 replace H : (spec_l2Pieces.l0 k a0 y159 (wrap64 ((a0.size : Int) - t162)) 0) = some r:=H
 have A2:=m_ A20
 clear A20
 have H':=m_ H
 clear H
 go_enter Tryd.func41,Tryd.ntmps41
 go_wp2_with (first|((with_reducible refine gate_dst (N:=8) rfl ?_);refine Kd.R_lit k45 _ 45 ?hg (N:=8) ?hd (xs:=([] : List (S45))) (inner:=[]) (ok:=fun _=>True) (okp:=fun _=>True) ?hr ?hp (fun _ hk=>hk) trivial (Below.refl _ _) (Nat.le_refl _) (by simp) ?_;(case hd=>rfl);(case hg=>rfl);(case hr=>first|(go_simp;done)|(go_simp;rfl));(case hp=>exact (Reps.none _ _));intro v160 w3 ho4 hb hg_ hnew_;clear hg_ hnew_;(first|rw [← Ny159.out] at ho4|(simp only [Int.reduceToNat] at ho4;rw [← Ny159.out] at ho4));have n0_:=m_ (Kd.R_lower ho4 (l6_ (by repeat (first|(with_reducible first|exact HB.out|apply l1_|apply l2_|apply l3_)|exact HB.out))));have n1_:=m_ (l5_ (by repeat (first|(with_reducible first|exact HB.out|apply l1_|apply l2_|apply l3_)|exact HB.out)) hb);clear HB;have HO161:=n0_;have HB:=n1_;clear n0_ n1_;clear hb ho4)|((with_reducible refine gate_callee (f:=57) rfl ?_);refine goesL_ (some 12) rfl rfl Tryd.func57 (by kernel_rfl) rfl #[.string a0] rfl (by (try simp only [List.map_toArray,List.map_cons,List.map_nil]);first|done|rfl|(simp only [List.length_drop,List.length_take];rfl)) ?_;(with_reducible refine (spec_l2Held.calls k a0 t162 _ A2.out).mono ?_);rintro e w5 ⟨rfl,hb⟩;refine ⟨_,rfl,?_⟩;have n0_:=m_ (Kd.R_below (by (with_reducible repeat (first|apply Kd.R_alloc|apply Kd.R_drewN|apply Kd.R_drew));exact HO161.out) hb);have n1_:=m_ (l5_ (by repeat (first|(with_reducible first|exact HB.out|apply l1_|apply l2_|apply l3_)|exact HB.out)) hb);clear HO161;clear HB;have HO161:=n0_;have HB:=n1_;clear n0_ n1_;(try clear hb);(try clear hb2);(try clear hk);(try clear hi)))
 go_loopg [3,5] k (fun kq v3 v5 w'=>∃ (x3_1 : List (S45)) (x5_1 : Int),v5 = .int .i64 x5_1 ∧ Aside0 (spec_l2Pieces.l0 kq a0 x3_1 (wrap64 ((a0.size : Int) - t162)) x5_1 = some r) ∧ Aside0 (kq ≤ k) ∧ Aside0 (Kd.R k45 45 w' w.heap.size (fun _=>True) v3 x3_1) ∧ Aside0 (Below w.heap.size w w'))
 case atStart=>exact ⟨(y159),(0),(by first|rfl|(simp;done)|(simp [*];done)),H',⟨Nat.le_refl _⟩,⟨by (with_reducible repeat (first|apply Kd.R_alloc|apply Kd.R_drewN|apply Kd.R_drew));exact HO161.out⟩,⟨by repeat (first|(with_reducible first|exact HB.out|apply l1_|apply l2_|apply l3_)|exact HB.out)⟩⟩
 case round =>
  clear H'
  try clear p2
  try clear c4
  try clear c5
  obtain ⟨x3_1,x5_1,rfl,HA,HK1,HO_3,HB⟩:=hrel
  cases gk with
  | zero => exact absurd HA.out (by simp [spec_l2Pieces.l0])
  | succ k1 =>
   have H:=HA.out
   clear HA
   simp only [spec_l2Pieces.l0] at H
   by_cases c6 : x5_1 < (wrap64 ((a0.size : Int) - t162))
   ·rw [if_pos c6] at H
    have c6b0 : decide (x5_1 < (wrap64 ((a0.size : Int) - t162))) = true:=decide_eq_true c6
    clear c6
    by_cases c7 : 0 ≤ x5_1
    ·rw [if_pos c7] at H
     have c7b0:=eq_true c7
     have c7b1 : decide (0 ≤ x5_1) = true:=decide_eq_true c7
     clear c7
     by_cases c8 : x5_1 ≤ (wrap64 ((a0.size : Int) - t162))
     ·rw [if_pos c8] at H
      have c8b0:=eq_true c8
      have c8b1 : decide (x5_1 ≤ (wrap64 ((a0.size : Int) - t162))) = true:=decide_eq_true c8
      clear c8
      by_cases c9 : (wrap64 ((a0.size : Int) - t162)) ≤ (a0.size : Int)
      ·rw [if_pos c9] at H
       have c9b0:=eq_true c9
       have c9b1 : decide ((wrap64 ((a0.size : Int) - t162)) ≤ (a0.size : Int)) = true:=decide_eq_true c9
       clear c9
       replace H:=Option.bind_eq_some_iff.mp H
       obtain ⟨⟨t163,t164,t165⟩,A100,H⟩:=H
       replace H : (if t165 > 0 then (if x3_1.length < 4398046511104 then (spec_l2Pieces.l0 k1 a0 (x3_1 ++ [(⟨t165,true,(⟨t163,t164⟩ : S43)⟩ : S45)]) (wrap64 ((a0.size : Int) - t162)) (wrap64 (x5_1 + t165))) else (none)) else (if x3_1.length < 4398046511104 then (spec_l2Pieces.l0 k1 a0 (x3_1 ++ [(⟨1,false,(⟨0,0⟩ : S43)⟩ : S45)]) (wrap64 ((a0.size : Int) - t162)) (wrap64 (x5_1 + 1))) else (none))) = some r:=H
       have A10:=m_ A100
       clear A100
       by_cases c11 : t165 > 0
       ·rw [if_pos c11] at H
        have c11b0 : decide (0 < t165) = true:=decide_eq_true c11
        clear c11
        by_cases c12 : x3_1.length < 4398046511104
        ·rw [if_pos c12] at H
         have LMc12:=m_ c12
         clear c12
         obtain ⟨y167,hy167⟩ : ∃ y_ : List (S45),y_ = (x3_1 ++ [(⟨t165,true,(⟨t163,t164⟩ : S43)⟩ : S45)]):=⟨_,rfl⟩
         replace H : (spec_l2Pieces.l0 k1 a0 y167 (wrap64 ((a0.size : Int) - t162)) (wrap64 (x5_1 + t165))) = some r:=by first|(rw [hy167];with_reducible exact H)|(have H2_:=(Option.bind_some _ _).symm.trans H;rw [hy167];with_reducible exact H2_)|(have H2_:=(Option.bind_some _ _).symm.trans H;with_reducible exact H2_)|with_reducible exact H|(rw [hy167];exact H)|exact H
         have Ny167:=m_ hy167
         clear hy167
         have H':=m_ H
         clear H
         go_wp2_with (first|((with_reducible refine gate_callee (f:=58) rfl ?_);refine goesL_ (some 22) rfl rfl Tryd.func58 (by kernel_rfl) rfl #[.string (a0.extract (x5_1 : Int).toNat ((wrap64 ((a0.size : Int) - t162)) : Int).toNat)] rfl (by (try simp only [List.map_toArray,List.map_cons,List.map_nil]);first|done|rfl|(simp only [List.length_drop,List.length_take];rfl)) ?_;(with_reducible refine (spec_l2Name.calls k1 (a0.extract (x5_1 : Int).toNat ((wrap64 ((a0.size : Int) - t162)) : Int).toNat) t163 t164 t165 _ A10.out).mono ?_);rintro e w13 ⟨rfl,hb⟩;refine ⟨_,rfl,?_⟩;have n0_:=m_ (Kd.R_below (by (with_reducible repeat (first|apply Kd.R_alloc|apply Kd.R_drewN|apply Kd.R_drew));exact HO_3.out) hb);have n1_:=m_ (l5_ (by repeat (first|(with_reducible first|exact HB.out|apply l1_|apply l2_|apply l3_)|exact HB.out)) hb);clear HO_3;clear HB;have HO_3:=n0_;have HB:=n1_;clear n0_ n1_;(try clear hb);(try clear hb2);(try clear hk);(try clear hi))|((with_reducible refine gate_dst (N:=6) rfl ?_);refine box_event ?hg (N:=6) ?hd (cs:=#[.int .i64 0,.int .i64 0]) (t:=43) ?hr ?_;(case hd=>rfl);(case hg=>rfl);(case hr=>first|(go_simp;done)|(go_simp;rfl));intro gb166 hg w14 hbox hb;have n0_:=m_ (Kd.R_below (by (with_reducible repeat (first|apply Kd.R_alloc|apply Kd.R_drewN|apply Kd.R_drew));exact HO_3.out) hb);have n1_:=m_ (l5_ (by repeat (first|(with_reducible first|exact HB.out|apply l1_|apply l2_|apply l3_)|exact HB.out)) hb);have n2_:=m_ (hbox);have n3_:=m_ ((by rw [hg];exact (l6_ (by repeat (first|(with_reducible first|exact HB.out|apply l1_|apply l2_|apply l3_)|exact HB.out))) : w.heap.size ≤ gb166));have n4_:=m_ ((by rw [hg];exact (l6_ (by repeat (first|(with_reducible first|exact HB.out|apply l1_|apply l2_|apply l3_)|exact HB.out))) : w.heap.size ≤ gb166));clear HO_3;clear HB;have HO_3:=n0_;have HB:=n1_;have BK166:=n2_;have GW166:=n3_;have GE166:=n4_;clear n0_ n1_ n2_ n3_ n4_;clear hb hbox hg;have hcz15_0 : w14.cell? ⟨gb166,0,none⟩ = some (.int .i64 0):=(c_ BK166.out 0).trans rfl;have hcz15_1 : w14.cell? ⟨gb166,1,none⟩ = some (.int .i64 0):=(c_ BK166.out 1).trans rfl;have hfz15_0:=f_ BK166.out 0;have hfz15_1:=f_ BK166.out 1)|((with_reducible refine gate_builtin (b:=.append) (xs:=#[.tmp 27,.tmp 31]) rfl ?_);at_builtin;refine Kd.R_append k45 (w0:=w) w.heap.size rfl (.tmp 27) (.tmp 31) 38 45 (.agg #[(.int .i64 0),(.bool false),(.int .i64 0),(.int .i64 0)]) 32 rfl Tryd.underlying38 info45 rfl (by decide) (by omega) u3 x3_1 (⟨t165,true,(⟨t163,t164⟩ : S43)⟩ : S45) [.int .i64 t165,.bool true,.int .i64 t163,.int .i64 t164] (fun _=>True) (fun _=>False) rfl (by first|(go_simp;done)|(go_simp;rfl)) ?aP (fun _ hk=>hk.elim) ?aF ?aO ?aB ?aS ?aL ?_;(case aP=>exact k45_mkM _ _ _ (⟨t165,true,(⟨t163,t164⟩ : S43)⟩ : S45));(case aB=>exact (by repeat (first|(with_reducible first|exact HB.out|apply l1_|apply l2_|apply l3_|refine l4_ ?_ GE166.out)|exact HB.out)));(case aF=>exact (fun _ _=>trivial));(case aO=>exact (by (with_reducible repeat (first|apply Kd.R_alloc|apply Kd.R_drewN|apply Kd.R_drew));exact Kd.R_mono (Kd.R_far (p:=⟨gb166,1,none⟩) (Kd.R_far (p:=⟨gb166,0,none⟩) (Kd.R_types HO_3.out BK166.out (by decide)) (fun _ hk=>hk.2) (.int .i64 t163)) (fun _ hk=>hk.2) (.int .i64 t164)) (fun _ hk=>trivial)));(case aS=>exact (l6_ (by repeat (first|(with_reducible first|exact HB.out|apply l1_|apply l2_|apply l3_|refine l4_ ?_ GE166.out)|exact HB.out))));(case aL=>have:=LMc12.out;omega);intro v168 w16 ho hb hg hat;rw [← Ny167.out] at ho;have n0_:=m_ (blk_grown (g:=gb166) (o:=.cells #[.int .i64 t163,.int .i64 t164] 43 (0,0)) (by (with_reducible repeat first|apply b1_|apply b2_|apply b3_);refine blk_put (cs:=#[.int .i64 t163,.int .i64 0]) ?_ 1 _ rfl;(with_reducible repeat first|apply b1_|apply b2_|apply b3_);refine blk_put (cs:=#[.int .i64 0,.int .i64 0]) ?_ 0 _ rfl;(with_reducible repeat first|apply b1_|apply b2_|apply b3_);exact BK166.out) hg (Kd.R_ne HO_3.out BK166.out (by decide)));have n1_:=m_ (hb);have n2_:=m_ (ho);clear BK166;clear HB;clear HO_3;have BK166:=n0_;have HB:=n1_;have HO169:=n2_;clear n0_ n1_ n2_;clear ho hb hg hat))
         go_roundg k1
         case measure=>have:=HK1.out;omega
         case rel=>exact ⟨(y167),(wrap64 (x5_1 + t165)),(by first|rfl|(simp;done)|(simp [*];done)),H',⟨by have:=HK1.out;omega⟩,⟨by (with_reducible repeat (first|apply Kd.R_alloc|apply Kd.R_drewN|apply Kd.R_drew));exact HO169.out⟩,⟨by repeat (first|(with_reducible first|exact HB.out|apply l1_|apply l2_|apply l3_|refine l4_ ?_ GE166.out)|exact HB.out)⟩⟩
        ·rw [if_neg c12] at H
         exact absurd H (by simp)
       ·rw [if_neg c11] at H
        have c11b0 : decide (0 < t165) = false:=decide_eq_false c11
        clear c11
        by_cases c17 : x3_1.length < 4398046511104
        ·rw [if_pos c17] at H
         have LMc17:=m_ c17
         clear c17
         obtain ⟨y170,hy170⟩ : ∃ y_ : List (S45),y_ = (x3_1 ++ [(⟨1,false,(⟨0,0⟩ : S43)⟩ : S45)]):=⟨_,rfl⟩
         replace H : (spec_l2Pieces.l0 k1 a0 y170 (wrap64 ((a0.size : Int) - t162)) (wrap64 (x5_1 + 1))) = some r:=by first|(rw [hy170];with_reducible exact H)|(have H2_:=(Option.bind_some _ _).symm.trans H;rw [hy170];with_reducible exact H2_)|(have H2_:=(Option.bind_some _ _).symm.trans H;with_reducible exact H2_)|with_reducible exact H|(rw [hy170];exact H)|exact H
         have Ny170:=m_ hy170
         clear hy170
         have H':=m_ H
         clear H
         go_wp2_with (first|((with_reducible refine gate_callee (f:=58) rfl ?_);refine goesL_ (some 22) rfl rfl Tryd.func58 (by kernel_rfl) rfl #[.string (a0.extract (x5_1 : Int).toNat ((wrap64 ((a0.size : Int) - t162)) : Int).toNat)] rfl (by (try simp only [List.map_toArray,List.map_cons,List.map_nil]);first|done|rfl|(simp only [List.length_drop,List.length_take];rfl)) ?_;(with_reducible refine (spec_l2Name.calls k1 (a0.extract (x5_1 : Int).toNat ((wrap64 ((a0.size : Int) - t162)) : Int).toNat) t163 t164 t165 _ A10.out).mono ?_);rintro e w18 ⟨rfl,hb⟩;refine ⟨_,rfl,?_⟩;have n0_:=m_ (Kd.R_below (by (with_reducible repeat (first|apply Kd.R_alloc|apply Kd.R_drewN|apply Kd.R_drew));exact HO_3.out) hb);have n1_:=m_ (l5_ (by repeat (first|(with_reducible first|exact HB.out|apply l1_|apply l2_|apply l3_)|exact HB.out)) hb);clear HO_3;clear HB;have HO_3:=n0_;have HB:=n1_;clear n0_ n1_;(try clear hb);(try clear hb2);(try clear hk);(try clear hi))|((with_reducible refine gate_dst (N:=6) rfl ?_);refine box_event ?hg (N:=6) ?hd (cs:=#[.int .i64 0,.int .i64 0]) (t:=43) ?hr ?_;(case hd=>rfl);(case hg=>rfl);(case hr=>first|(go_simp;done)|(go_simp;rfl));intro gb166 hg w19 hbox hb;have n0_:=m_ (Kd.R_below (by (with_reducible repeat (first|apply Kd.R_alloc|apply Kd.R_drewN|apply Kd.R_drew));exact HO_3.out) hb);have n1_:=m_ (l5_ (by repeat (first|(with_reducible first|exact HB.out|apply l1_|apply l2_|apply l3_)|exact HB.out)) hb);have n2_:=m_ (hbox);have n3_:=m_ ((by rw [hg];exact (l6_ (by repeat (first|(with_reducible first|exact HB.out|apply l1_|apply l2_|apply l3_)|exact HB.out))) : w.heap.size ≤ gb166));have n4_:=m_ ((by rw [hg];exact (l6_ (by repeat (first|(with_reducible first|exact HB.out|apply l1_|apply l2_|apply l3_)|exact HB.out))) : w.heap.size ≤ gb166));clear HO_3;clear HB;have HO_3:=n0_;have HB:=n1_;have BK166:=n2_;have GW166:=n3_;have GE166:=n4_;clear n0_ n1_ n2_ n3_ n4_;clear hb hbox hg;have hcz20_0 : w19.cell? ⟨gb166,0,none⟩ = some (.int .i64 0):=(c_ BK166.out 0).trans rfl;have hcz20_1 : w19.cell? ⟨gb166,1,none⟩ = some (.int .i64 0):=(c_ BK166.out 1).trans rfl;have hfz20_0:=f_ BK166.out 0;have hfz20_1:=f_ BK166.out 1)|((with_reducible refine gate_builtin (b:=.append) (xs:=#[.tmp 33,.tmp 35]) rfl ?_);at_builtin;refine Kd.R_append k45 (w0:=w) w.heap.size rfl (.tmp 33) (.tmp 35) 38 45 (.agg #[(.int .i64 0),(.bool false),(.int .i64 0),(.int .i64 0)]) 32 rfl Tryd.underlying38 info45 rfl (by decide) (by omega) u3 x3_1 (⟨1,false,(⟨0,0⟩ : S43)⟩ : S45) [.int .i64 1,.bool false,.int .i64 0,.int .i64 0] (fun _=>True) (fun _=>False) rfl (by first|(go_simp;done)|(go_simp;rfl)) ?aP (fun _ hk=>hk.elim) ?aF ?aO ?aB ?aS ?aL ?_;(case aP=>exact k45_mkM _ _ _ (⟨1,false,(⟨0,0⟩ : S43)⟩ : S45));(case aB=>exact (by repeat (first|(with_reducible first|exact HB.out|apply l1_|apply l2_|apply l3_|refine l4_ ?_ GE166.out)|exact HB.out)));(case aF=>exact (fun _ _=>trivial));(case aO=>exact (by (with_reducible repeat (first|apply Kd.R_alloc|apply Kd.R_drewN|apply Kd.R_drew));exact Kd.R_mono (Kd.R_far (p:=⟨gb166,1,none⟩) (Kd.R_far (p:=⟨gb166,0,none⟩) (Kd.R_types HO_3.out BK166.out (by decide)) (fun _ hk=>hk.2) (.int .i64 t163)) (fun _ hk=>hk.2) (.int .i64 t164)) (fun _ hk=>trivial)));(case aS=>exact (l6_ (by repeat (first|(with_reducible first|exact HB.out|apply l1_|apply l2_|apply l3_|refine l4_ ?_ GE166.out)|exact HB.out))));(case aL=>have:=LMc17.out;omega);intro v171 w21 ho hb hg hat;rw [← Ny170.out] at ho;have n0_:=m_ (blk_grown (g:=gb166) (o:=.cells #[.int .i64 t163,.int .i64 t164] 43 (0,0)) (by (with_reducible repeat first|apply b1_|apply b2_|apply b3_);refine blk_put (cs:=#[.int .i64 t163,.int .i64 0]) ?_ 1 _ rfl;(with_reducible repeat first|apply b1_|apply b2_|apply b3_);refine blk_put (cs:=#[.int .i64 0,.int .i64 0]) ?_ 0 _ rfl;(with_reducible repeat first|apply b1_|apply b2_|apply b3_);exact BK166.out) hg (Kd.R_ne HO_3.out BK166.out (by decide)));have n1_:=m_ (hb);have n2_:=m_ (ho);clear BK166;clear HB;clear HO_3;have BK166:=n0_;have HB:=n1_;have HO172:=n2_;clear n0_ n1_ n2_;clear ho hb hg hat))
         go_roundg k1
         case measure=>have:=HK1.out;omega
         case rel=>exact ⟨(y170),(wrap64 (x5_1 + 1)),(by first|rfl|(simp;done)|(simp [*];done)),H',⟨by have:=HK1.out;omega⟩,⟨by (with_reducible repeat (first|apply Kd.R_alloc|apply Kd.R_drewN|apply Kd.R_drew));exact HO172.out⟩,⟨by repeat (first|(with_reducible first|exact HB.out|apply l1_|apply l2_|apply l3_|refine l4_ ?_ GE166.out)|exact HB.out)⟩⟩
        ·rw [if_neg c17] at H
         exact absurd H (by simp)
      ·rw [if_neg c9] at H
       exact absurd H (by simp)
     ·rw [if_neg c8] at H
      exact absurd H (by simp)
    ·rw [if_neg c7] at H
     exact absurd H (by simp)
   ·rw [if_neg c6] at H
    have c6b0 : decide (x5_1 < (wrap64 ((a0.size : Int) - t162))) = false:=decide_eq_false c6
    clear c6
    obtain rfl:=Option.some.inj H
    go_wp2
    go_ret
    exact ⟨_,by first|rfl|(simp [e1_,e2_] <;> rfl)|(simp [*,e1_,e2_] <;> rfl)|(simp [e1_,e2_,pk_empty1,pk_empty2];done)|(simp [*,e1_,e2_,pk_empty1,pk_empty2];done),by (with_reducible repeat (first|apply Kd.R_alloc|apply Kd.R_drewN|apply Kd.R_drew));exact HO_3.out,by repeat (first|(with_reducible first|exact HB.out|apply l1_|apply l2_|apply l3_)|exact HB.out)⟩

/-! ### spec_TextPieces: function 22 -/
def spec_TextPieces.f (k : Nat) (a0 : ByteArray) : Option ((List (S45))) := (spec_TextOk.f k a0).bind fun t173 => (if t173 = true then ((spec_l2Pieces.f k a0).bind fun t174 => (some t174)) else (some (([] : List (S45)))))
theorem spec_TextPieces.mono : ∀ a0 k, LeO (spec_TextPieces.f k a0) (spec_TextPieces.f (k + 1) a0) := by
 intro a0 k
 unfold spec_TextPieces.f
 repeat' first
   | (with_reducible exact spec_TextOk.mono _ _)
   | (with_reducible exact spec_l2Pieces.mono _ _)
   | (with_reducible exact LeO.refl _)
   | (with_reducible exact LeO.none _)
   | (with_reducible refine LeO.ite ?_ ?_)
   | (with_reducible refine LeO.bind ?_ (fun _ => ?_))
   | exact spec_TextOk.mono _ _
   | exact spec_l2Pieces.mono _ _
   | exact LeO.none _
   | refine LeO.ite ?_ ?_
   | refine LeO.bind ?_ (fun _ => ?_)
set_option maxHeartbeats 8000000 in
set_option maxRecDepth 100000 in
theorem spec_TextPieces.calls (k : Nat) (a0 : ByteArray) (r : List (S45)) (w : World) (h : spec_TextPieces.f k a0 = some r) :
  Calls Tryd.prog 22 #[.string a0] w fun e w'=>∃ v0_ : Value,e = .returned (v0_) ∧ Kd.R k45 45 w' w.heap.size (fun _=>True) v0_ r ∧ Below w.heap.size w w':=by
 have HB:=m_ (Below.refl w.heap.size w)
 have H : ((spec_TextOk.f k a0).bind fun t173=>(if t173 = true then ((spec_l2Pieces.f k a0).bind fun t174=>(some t174)) else (some (([] : List (S45)))))) = some r:=h
 clear h
 replace H:=Option.bind_eq_some_iff.mp H
 obtain ⟨t173,A20,H⟩:=H
 replace H : (if t173 = true then ((spec_l2Pieces.f k a0).bind fun t174=>(some t174)) else (some (([] : List (S45))))) = some r:=H
 have A2:=m_ A20
 clear A20
 by_cases c3 : t173 = true
 ·subst c3
  have H1 : ((spec_l2Pieces.f k a0).bind fun t174=>(some t174)) = some r:=by rw [if_pos rfl] at H;exact H
  clear H
  have H:=H1
  clear H1
  replace H:=Option.bind_eq_some_iff.mp H
  obtain ⟨t174,A40,H⟩:=H
  replace H : (some t174) = some r:=H
  have A4:=m_ A40
  clear A40
  obtain rfl:=Option.some.inj H
  go_enter Tryd.func22,Tryd.ntmps22
  go_wp2_with (first|((with_reducible refine gate_callee (f:=23) rfl ?_);refine goesL_ (some 4) rfl rfl Tryd.func23 (by kernel_rfl) rfl #[.string a0] rfl (by (try simp only [List.map_toArray,List.map_cons,List.map_nil]);first|done|rfl|(simp only [List.length_drop,List.length_take];rfl)) ?_;(with_reducible refine (spec_TextOk.calls k a0 true _ A2.out).mono ?_);rintro e w' ⟨rfl,⟨nd,rfl⟩⟩;refine ⟨_,rfl,?_⟩)|((with_reducible refine gate_callee (f:=41) rfl ?_);refine goesL_ (some 8) rfl rfl Tryd.func41 (by kernel_rfl) rfl #[.string a0] rfl (by (try simp only [List.map_toArray,List.map_cons,List.map_nil]);first|done|rfl|(simp only [List.length_drop,List.length_take];rfl)) ?_;(with_reducible refine (spec_l2Pieces.calls k a0 t174 _ A4.out).mono ?_);rintro e w5 ⟨v175,rfl,ho0,hb⟩;refine ⟨_,rfl,?_⟩;have n0_:=m_ (Kd.R_lower ho0 (l6_ (by repeat (first|(with_reducible first|exact HB.out|apply l1_|apply l2_|apply l3_)|exact HB.out))));have n1_:=m_ (l5_ (by repeat (first|(with_reducible first|exact HB.out|apply l1_|apply l2_|apply l3_)|exact HB.out)) hb);clear HB;have HO176:=n0_;have HB:=n1_;clear n0_ n1_;(try clear hb);(try clear hb2);(try clear hk);(try clear hi);(try clear ho0)))
  go_ret
  exact ⟨_,by first|rfl|(simp [e1_,e2_] <;> rfl)|(simp [*,e1_,e2_] <;> rfl)|(simp [e1_,e2_,pk_empty1,pk_empty2];done)|(simp [*,e1_,e2_,pk_empty1,pk_empty2];done),by (with_reducible repeat (first|apply Kd.R_alloc|apply Kd.R_drewN|apply Kd.R_drew));exact HO176.out,by repeat (first|(with_reducible first|exact HB.out|apply l1_|apply l2_|apply l3_)|exact HB.out)⟩
 ·replace c3:=Bool.eq_false_iff.mpr c3
  subst c3
  have H1 : (some (([] : List (S45)))) = some r:=by rw [if_neg (show ¬ (false = true) by decide)] at H;exact H
  clear H
  have H:=H1
  clear H1
  obtain ⟨y177,hy177⟩ : ∃ y_ : List (S45),y_ = (([] : List (S45))):=⟨_,rfl⟩
  replace H : (some y177) = some r:=by first|(rw [hy177];with_reducible exact H)|(have H2_:=(Option.bind_some _ _).symm.trans H;rw [hy177];with_reducible exact H2_)|(have H2_:=(Option.bind_some _ _).symm.trans H;with_reducible exact H2_)|with_reducible exact H|(rw [hy177];exact H)|exact H
  have Ny177:=m_ hy177
  clear hy177
  obtain rfl:=Option.some.inj H
  go_enter Tryd.func22,Tryd.ntmps22
  go_wp2_with (first|((with_reducible refine gate_callee (f:=23) rfl ?_);refine goesL_ (some 4) rfl rfl Tryd.func23 (by kernel_rfl) rfl #[.string a0] rfl (by (try simp only [List.map_toArray,List.map_cons,List.map_nil]);first|done|rfl|(simp only [List.length_drop,List.length_take];rfl)) ?_;(with_reducible refine (spec_TextOk.calls k a0 false _ A2.out).mono ?_);rintro e w' ⟨rfl,⟨nd,rfl⟩⟩;refine ⟨_,rfl,?_⟩)|((with_reducible refine gate_dst (N:=6) rfl ?_);refine Kd.R_lit k45 _ 45 ?hg (N:=6) ?hd (xs:=([] : List (S45))) (inner:=[]) (ok:=fun _=>True) (okp:=fun _=>True) ?hr ?hp (fun _ hk=>hk) trivial (Below.refl _ _) (Nat.le_refl _) (by simp) ?_;(case hd=>rfl);(case hg=>rfl);(case hr=>first|(go_simp;done)|(go_simp;rfl));(case hp=>exact (Reps.none _ _));intro v178 w6 ho7 hb hg_ hnew_;clear hg_ hnew_;(first|rw [← Ny177.out] at ho7|(simp only [Int.reduceToNat] at ho7;rw [← Ny177.out] at ho7));have n0_:=m_ (Kd.R_lower ho7 (l6_ (by repeat (first|(with_reducible first|exact HB.out|apply l1_|apply l2_|apply l3_)|exact HB.out))));have n1_:=m_ (l5_ (by repeat (first|(with_reducible first|exact HB.out|apply l1_|apply l2_|apply l3_)|exact HB.out)) hb);clear HB;have HO179:=n0_;have HB:=n1_;clear n0_ n1_;clear hb ho7))
  go_ret
  exact ⟨_,by first|rfl|(simp [e1_,e2_] <;> rfl)|(simp [*,e1_,e2_] <;> rfl)|(simp [e1_,e2_,pk_empty1,pk_empty2];done)|(simp [*,e1_,e2_,pk_empty1,pk_empty2];done),by (with_reducible repeat (first|apply Kd.R_alloc|apply Kd.R_drewN|apply Kd.R_drew));exact HO179.out,by repeat (first|(with_reducible first|exact HB.out|apply l1_|apply l2_|apply l3_)|exact HB.out)⟩

end Go.Proofs.YtkcjmmhleepjeaaDoor.A
