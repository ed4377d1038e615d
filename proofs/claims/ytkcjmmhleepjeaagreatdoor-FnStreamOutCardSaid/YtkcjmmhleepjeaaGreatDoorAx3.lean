-- Printed by myprint.py (wip/tools) out of the translation. Not trusted: Lean checks it.
import Derived.Test.YtkcjmmhleepjeaaGreatDoorAx0
import Derived.Test.YtkcjmmhleepjeaaGreatDoorAx2
namespace Go.Proofs.YtkcjmmhleepjeaaGreatDoor.A
open Go.RowKit Go.Proofs.YtkcjmmhleepjeaaGreatDoorW.PrintWords Go.Proofs.YtkcjmmhleepjeaaGreatDoorW.PrintLast Go.Proofs.YtkcjmmhleepjeaaGreatDoorW.PrintMore
attribute [local go_sem] max2_int min2_int max_two min_two max_three min_three max_four min_four
set_option linter.unusedVariables false
set_option linter.unusedSimpArgs false

/-! ### spec_l71End: function 55 -/
mutual
def spec_l71End.j0 : Nat → Int → Bool → List Int → Int → Option (Int × Int × Int)
 | 0, _, _, _, _ => none
 | k + 1, x4, x5, x1000, x1001 => if x5 = true then ((spec_l6Rd_pick.f k x1000 x1001 3).bind fun bt116 => ((spec_l6Rd_pick.f k x1000 bt116.2 9).bind fun bt118 => (some (wrap64 (1 + bt116.1), wrap64 (1 + bt118.1), bt118.2)))) else (if x4 = 4 then (spec_l71End.j1 k x4 (x4 == 4) x1000 x1001) else (if x4 = 5 then (spec_l71End.j1 k x4 (x4 == 5) x1000 x1001) else (spec_l71End.j1 k x4 (x4 == 6) x1000 x1001)))
def spec_l71End.j1 : Nat → Int → Bool → List Int → Int → Option (Int × Int × Int)
 | 0, _, _, _, _ => none
 | k + 1, x4, x17, x1000, x1001 => if x17 = true then ((spec_l6Rd_pick.f k x1000 x1001 3).bind fun bt120 => ((spec_l6Rd_pick.f k x1000 bt120.2 9).bind fun bt122 => (some (wrap64 (4 + bt120.1), wrap64 (1 + bt122.1), bt122.2)))) else (if x4 = 7 then (spec_l71End.j2 k (x4 == 7) x1000 x1001) else (if x4 = 8 then (spec_l71End.j2 k (x4 == 8) x1000 x1001) else (if x4 = 9 then (spec_l71End.j2 k (x4 == 9) x1000 x1001) else (spec_l71End.j2 k (x4 == 10) x1000 x1001))))
def spec_l71End.j2 : Nat → Bool → List Int → Int → Option (Int × Int × Int)
 | 0, _, _, _ => none
 | k + 1, x28, x1000, x1001 => if x28 = true then ((spec_l6Rd_pick.f k x1000 x1001 8).bind fun bt124 => (some (9, wrap64 (10 + bt124.1), bt124.2))) else ((spec_l6Rd_pick.f k x1000 x1001 12).bind fun bt126 => ((spec_l6Rd_pick.f k x1000 bt126.2 20).bind fun bt128 => (some (bt126.1, bt128.1, bt128.2))))
end
def spec_l71End.f (k : Nat) (s0_0 : List Int) (s0_1 : Int) : Option (Int × Int × Int) := (spec_l6Rd_pick.f k s0_0 s0_1 12).bind fun bt114 => (if bt114.1 = 0 then (spec_l71End.j0 k bt114.1 (bt114.1 == 0) s0_0 bt114.2) else (if bt114.1 = 1 then (spec_l71End.j0 k bt114.1 (bt114.1 == 1) s0_0 bt114.2) else (if bt114.1 = 2 then (spec_l71End.j0 k bt114.1 (bt114.1 == 2) s0_0 bt114.2) else (spec_l71End.j0 k bt114.1 (bt114.1 == 3) s0_0 bt114.2))))
theorem spec_l71End.mono_l : ∀ k, (∀ y0 y1 y2 y3, LeO (spec_l71End.j0 k y0 y1 y2 y3) (spec_l71End.j0 (k + 1) y0 y1 y2 y3)) ∧ (∀ y0 y1 y2 y3, LeO (spec_l71End.j1 k y0 y1 y2 y3) (spec_l71End.j1 (k + 1) y0 y1 y2 y3)) ∧ (∀ y0 y1 y2, LeO (spec_l71End.j2 k y0 y1 y2) (spec_l71End.j2 (k + 1) y0 y1 y2))
 | 0 => ⟨fun _ _ _ _ r h => by simp [spec_l71End.j0] at h, fun _ _ _ _ r h => by simp [spec_l71End.j1] at h, fun _ _ _ r h => by simp [spec_l71End.j2] at h⟩
 | k + 1 => by
  obtain ⟨ih0,ih1,ih2⟩:=spec_l71End.mono_l k
  refine ⟨?_,?_,?_⟩
  ·intro y0 y1 y2 y3
   unfold spec_l71End.j0
   exact leo4 ih0 ih1 ih2 spec_l6Rd_pick.mono
  ·intro y0 y1 y2 y3
   unfold spec_l71End.j1
   exact leo4 ih0 ih1 ih2 spec_l6Rd_pick.mono
  ·intro y0 y1 y2
   unfold spec_l71End.j2
   exact leo4 ih0 ih1 ih2 spec_l6Rd_pick.mono
theorem spec_l71End.mono : ∀ a0 a1 k, LeO (spec_l71End.f k a0 a1) (spec_l71End.f (k + 1) a0 a1) := by
 intro a0 a1 k
 obtain ⟨ih0,ih1,ih2⟩:=spec_l71End.mono_l k
 unfold spec_l71End.f
 exact leo4 ih0 ih1 ih2 spec_l6Rd_pick.mono
set_option maxHeartbeats 8000000 in
set_option maxRecDepth 100000 in
theorem spec_l71End.calls (k : Nat) (g : Nat) (s0_0 : List Int) (s0_1 : Int) (r1 : Int) (r2 : Int) (r3 : Int) (w0 w : World) (hI : IsS56 w0 w g s0_0 s0_1) (hB : Below w0.heap.size w0 w) (h : spec_l71End.f k s0_0 s0_1 = some (r1, r2, r3)) :
  Calls Tryz.prog 55 #[.pointer (some ⟨g,0,none⟩)] w fun e w'=>e = .returned (.agg #[.int .i64 r1,.int .i64 r2]) ∧ IsS56 w0 w' g s0_0 r3 ∧ Below w0.heap.size w0 w' ∧ KeepBut w w' g none:=by
 have hu49:=Tryz.underlying49
 have HI0:=m_ hI
 have HK:=m_ (KeepBut.refl w g none)
 have HL:=m_ hB.size
 clear hI
 have HW0:=m_ hB.size
 have HB:=m_ hB
 clear hB
 have H : ((spec_l6Rd_pick.f k s0_0 s0_1 12).bind fun bt114=>(if bt114.1 = 0 then (spec_l71End.j0 k bt114.1 (bt114.1 == 0) s0_0 bt114.2) else (if bt114.1 = 1 then (spec_l71End.j0 k bt114.1 (bt114.1 == 1) s0_0 bt114.2) else (if bt114.1 = 2 then (spec_l71End.j0 k bt114.1 (bt114.1 == 2) s0_0 bt114.2) else (spec_l71End.j0 k bt114.1 (bt114.1 == 3) s0_0 bt114.2))))) = some (r1,r2,r3):=h
 clear h
 replace H:=Option.bind_eq_some_iff.mp H
 obtain ⟨⟨t114,t115⟩,A20,H⟩:=H
 replace H : (if t114 = 0 then (spec_l71End.j0 k t114 (t114 == 0) s0_0 t115) else (if t114 = 1 then (spec_l71End.j0 k t114 (t114 == 1) s0_0 t115) else (if t114 = 2 then (spec_l71End.j0 k t114 (t114 == 2) s0_0 t115) else (spec_l71End.j0 k t114 (t114 == 3) s0_0 t115)))) = some (r1,r2,r3):=H
 have A2:=m_ A20
 clear A20
 have HC3:=m_ H
 clear H
 go_enter Tryz.func55,Tryz.ntmps55
 go_upto_if 5 with (first|((with_reducible refine gate_dst (N:=2) rfl ?_);refine box_event ?hg (N:=2) ?hd (cs:=#[.int .i64 0,.int .i64 0]) (t:=49) ?hr ?_;(case hd=>rfl);(case hg=>rfl);(case hr=>first|(go_simp;done)|(go_simp;rfl));intro gb113 hg w4 hbox hb;have n0_:=m_ (IsS56.below (by repeat (first|(with_reducible first|exact HI0.out|apply IsS56.alloc|apply IsS56.drewN|apply IsS56.drew|apply IsS56.set_1)|exact HI0.out)) hb);have n1_:=m_ (KeepBut.trans (puK HK.out) (KeepBut.of_below hb g none) (.inl rfl));have n2_:=m_ (l5_ (puM HB.out (IsS56.ge HI0.out)) hb);have n3_:=m_ (hbox);have n4_:=m_ ((by rw [hg];exact (keep_size (w:=w) (g:=g) (row:=none) (puK HK.out)) : w.heap.size ≤ gb113));have n5_:=m_ ((Nat.le_trans HW0.out (by rw [hg];exact (keep_size (w:=w) (g:=g) (row:=none) (puK HK.out)) : w.heap.size ≤ gb113) : w0.heap.size ≤ gb113));have n6_:=m_ ((by rw [hg];exact Nat.ne_of_lt (IsS56.lt (show IsS56 w0 _ g s0_0 s0_1 from by repeat (first|(with_reducible first|exact HI0.out|apply IsS56.alloc|apply IsS56.drewN|apply IsS56.drew|apply IsS56.set_1)|exact HI0.out))) : g ≠ gb113));have n7_:=m_ ((by rw [hg];exact Nat.ne_of_gt (IsS56.lt (show IsS56 w0 _ g s0_0 s0_1 from by repeat (first|(with_reducible first|exact HI0.out|apply IsS56.alloc|apply IsS56.drewN|apply IsS56.drew|apply IsS56.set_1)|exact HI0.out))) : gb113 ≠ g));revert n0_ n1_ n2_ n3_ n4_ n5_ n6_ n7_;clear HI0 HK HB;intro HI0 HK HB BK113 GW113 GE113 NB0_113 NB113_0;clear hb hbox hg)|((with_reducible refine gate_callee (f:=24) rfl ?_);refine goesL_ (some 4) rfl rfl Tryz.func24 (by kernel_rfl) rfl #[.pointer (some ⟨g,0,none⟩),.int .i64 12] rfl lens ?_;(with_reducible refine (spec_l6Rd_pick.calls k g s0_0 s0_1 12 t114 t115 w0 _ ?side1 ?side2 A2.out).mono ?_);(case side1=>repeat (first|(with_reducible first|exact HI0.out|apply IsS56.alloc|apply IsS56.drewN|apply IsS56.drew|apply IsS56.set_1|refine IsS56.far ?_ NB0_113.out _)|exact HI0.out));(case side2=>exact puN HB.out (IsS56.ge HI0.out) GE113.out);rintro e w5 ⟨rfl,hi,hb,hk⟩;refine ⟨_,rfl,?_⟩;have n0_:=m_ (KeepBut.blk hk (g':=gb113) (o:=.cells #[.int .i64 0,.int .i64 0] 49 (0,0)) (puB BK113.out) NB113_0.out (by simp));have n1_:=m_ (KeepBut.trans (puV HK.out GW113.out) hk (.inl rfl));have n2_:=m_ (hb);have n3_:=m_ (hi);revert n0_ n1_ n2_ n3_;clear BK113 HK HB HI0;intro BK113 HK HB HI0;(try clear hb);(try clear hb2);(try clear hk);(try clear hi)))
 (try simp only [Act.put,s1_,s2_,s3_])
 go_cut [5] (fun v5 wc=>∃ (kq : Nat) (x5_2 : Bool),v5 = .bool x5_2 ∧ Aside0 (spec_l71End.j0 kq t114 x5_2 s0_0 t115 = some (r1,r2,r3)) ∧ Aside0 (kq ≤ k) ∧ Aside0 (wc.heap[gb113]? = some (.cells #[.int .i64 0,.int .i64 0] 49 (0,0))) ∧ Aside0 (IsS56 w0 wc g s0_0 t115) ∧ Aside0 (KeepBut w wc g none) ∧ Aside0 (Below w0.heap.size w0 wc))
 case first =>
  have H:=HC3.out
  clear HC3
  by_cases c6 : t114 = 0
  ·rw [if_pos c6] at H
   have c6b0 : (t114 == 0) = true:=beq_iff_eq.mpr c6
   have c6b1 : (t114 != 0) = false:=bne_eq_false_iff_eq.mpr c6
   clear c6
   (first|rw [c6b0]|(simp only [i64_w,i32_w];rw [c6b0])|skip)
   have H':=m_ H
   clear H
   go_wp2
   go_meet
   case rel=>exact ⟨_,((t114 == 0)),(by first|rfl|(simp;done)|(simp [*];done)),H',⟨by first|omega|exact Nat.le_refl _⟩,⟨by (with_reducible repeat first|apply b1_|apply b2_|apply b3_);exact BK113.out⟩,⟨by repeat (first|(with_reducible first|exact HI0.out|apply IsS56.alloc|apply IsS56.drewN|apply IsS56.drew|apply IsS56.set_1|refine IsS56.far ?_ NB0_113.out _)|exact HI0.out)⟩,⟨puV HK.out GW113.out⟩,⟨puN HB.out (IsS56.ge HI0.out) GE113.out⟩⟩
  ·rw [if_neg c6] at H
   have c6b0 : (t114 == 0) = false:=beq_eq_false_iff_ne.mpr c6
   have c6b1 : (t114 != 0) = true:=bne_iff_ne.mpr c6
   (first|rw [c6b0]|(simp only [i64_w,i32_w];rw [c6b0])|skip)
   by_cases c7 : t114 = 1
   ·rw [if_pos c7] at H
    have c7b0 : (t114 == 1) = true:=beq_iff_eq.mpr c7
    have c7b1 : (t114 != 1) = false:=bne_eq_false_iff_eq.mpr c7
    clear c7
    have H':=m_ H
    clear H
    go_wp2
    go_meet
    case rel=>exact ⟨_,((t114 == 1)),(by first|rfl|(simp;done)|(simp [*];done)),H',⟨by first|omega|exact Nat.le_refl _⟩,⟨by (with_reducible repeat first|apply b1_|apply b2_|apply b3_);exact BK113.out⟩,⟨by repeat (first|(with_reducible first|exact HI0.out|apply IsS56.alloc|apply IsS56.drewN|apply IsS56.drew|apply IsS56.set_1|refine IsS56.far ?_ NB0_113.out _)|exact HI0.out)⟩,⟨puV HK.out GW113.out⟩,⟨puN HB.out (IsS56.ge HI0.out) GE113.out⟩⟩
   ·rw [if_neg c7] at H
    have c7b0 : (t114 == 1) = false:=beq_eq_false_iff_ne.mpr c7
    have c7b1 : (t114 != 1) = true:=bne_iff_ne.mpr c7
    by_cases c8 : t114 = 2
    ·rw [if_pos c8] at H
     have c8b0 : (t114 == 2) = true:=beq_iff_eq.mpr c8
     have c8b1 : (t114 != 2) = false:=bne_eq_false_iff_eq.mpr c8
     clear c8
     have H':=m_ H
     clear H
     go_wp2
     go_meet
     case rel=>exact ⟨_,((t114 == 2)),(by first|rfl|(simp;done)|(simp [*];done)),H',⟨by first|omega|exact Nat.le_refl _⟩,⟨by (with_reducible repeat first|apply b1_|apply b2_|apply b3_);exact BK113.out⟩,⟨by repeat (first|(with_reducible first|exact HI0.out|apply IsS56.alloc|apply IsS56.drewN|apply IsS56.drew|apply IsS56.set_1|refine IsS56.far ?_ NB0_113.out _)|exact HI0.out)⟩,⟨puV HK.out GW113.out⟩,⟨puN HB.out (IsS56.ge HI0.out) GE113.out⟩⟩
    ·rw [if_neg c8] at H
     have c8b0 : (t114 == 2) = false:=beq_eq_false_iff_ne.mpr c8
     have c8b1 : (t114 != 2) = true:=bne_iff_ne.mpr c8
     have H':=m_ H
     clear H
     go_wp2
     go_meet
     case rel=>exact ⟨_,((t114 == 3)),(by first|rfl|(simp;done)|(simp [*];done)),H',⟨by first|omega|exact Nat.le_refl _⟩,⟨by (with_reducible repeat first|apply b1_|apply b2_|apply b3_);exact BK113.out⟩,⟨by repeat (first|(with_reducible first|exact HI0.out|apply IsS56.alloc|apply IsS56.drewN|apply IsS56.drew|apply IsS56.set_1|refine IsS56.far ?_ NB0_113.out _)|exact HI0.out)⟩,⟨puV HK.out GW113.out⟩,⟨puN HB.out (IsS56.ge HI0.out) GE113.out⟩⟩
 case rest =>
  clear HC3
  try clear c2
  try clear p2
  try clear c5
  try clear c6
  try clear c6b0
  try clear c6b1
  try clear c7
  try clear c7b0
  try clear c7b1
  try clear c8
  try clear c8b0
  try clear c8b1
  obtain ⟨kq,x5_2,rfl,HA,HJ2,BK113,HI0,HK,HB⟩:=hcut
  cases kq with
  | zero => exact absurd HA.out (by simp [spec_l71End.j0])
  | succ kj2 =>
   have H:=HA.out
   clear HA
   simp only [spec_l71End.j0] at H
   by_cases c9 : x5_2 = true
   ·subst c9
    replace H:=ifp H rfl
    replace H:=Option.bind_eq_some_iff.mp H
    obtain ⟨⟨t116,t117⟩,A100,H⟩:=H
    replace H : ((spec_l6Rd_pick.f kj2 s0_0 t117 9).bind fun bt118=>(some (wrap64 (1 + t116),wrap64 (1 + bt118.1),bt118.2))) = some (r1,r2,r3):=H
    have A10:=m_ A100
    clear A100
    replace H:=Option.bind_eq_some_iff.mp H
    obtain ⟨⟨t118,t119⟩,A110,H⟩:=H
    replace H : (some (wrap64 (1 + t116),wrap64 (1 + t118),t119)) = some (r1,r2,r3):=H
    have A11:=m_ A110
    clear A110
    simp only [Option.some.injEq,Prod.mk.injEq] at H
    obtain ⟨rfl,rfl,rfl⟩:=H
    go_wp2_with (first|((with_reducible refine gate_callee (f:=24) rfl ?_);refine goesL_ (some 11) rfl rfl Tryz.func24 (by kernel_rfl) rfl #[.pointer (some ⟨g,0,none⟩),.int .i64 3] rfl lens ?_;(with_reducible refine (spec_l6Rd_pick.calls kj2 g s0_0 t115 3 t116 t117 w0 _ ?side1 ?side2 A10.out).mono ?_);(case side1=>repeat (first|(with_reducible first|exact HI0.out|apply IsS56.alloc|apply IsS56.drewN|apply IsS56.drew|apply IsS56.set_1|refine IsS56.far ?_ NB0_113.out _)|exact HI0.out));(case side2=>exact puN HB.out (IsS56.ge HI0.out) GE113.out);rintro e w12 ⟨rfl,hi,hb,hk⟩;refine ⟨_,rfl,?_⟩;have n0_:=m_ (KeepBut.blk hk (g':=gb113) (o:=.cells #[.int .i64 0,.int .i64 0] 49 (0,0)) (puB BK113.out) NB113_0.out (by simp));have n1_:=m_ (KeepBut.trans (puV HK.out GW113.out) hk (.inl rfl));have n2_:=m_ (hb);have n3_:=m_ (hi);revert n0_ n1_ n2_ n3_;clear BK113 HK HB HI0;intro BK113 HK HB HI0;(try clear hb);(try clear hb2);(try clear hk);(try clear hi))|((with_reducible refine gate_callee (f:=24) rfl ?_);refine goesL_ (some 14) rfl rfl Tryz.func24 (by kernel_rfl) rfl #[.pointer (some ⟨g,0,none⟩),.int .i64 9] rfl lens ?_;(with_reducible refine (spec_l6Rd_pick.calls kj2 g s0_0 t117 9 t118 t119 w0 _ ?side1 ?side2 A11.out).mono ?_);(case side1=>repeat (first|(with_reducible first|exact HI0.out|apply IsS56.alloc|apply IsS56.drewN|apply IsS56.drew|apply IsS56.set_1|refine IsS56.far ?_ NB0_113.out _)|exact HI0.out));(case side2=>exact puN HB.out (IsS56.ge HI0.out) GE113.out);rintro e w13 ⟨rfl,hi,hb,hk⟩;refine ⟨_,rfl,?_⟩;have n0_:=m_ (KeepBut.blk hk (g':=gb113) (o:=.cells #[.int .i64 0,.int .i64 0] 49 (0,0)) (puB BK113.out) NB113_0.out (by simp));have n1_:=m_ (KeepBut.trans (puV HK.out GW113.out) hk (.inl rfl));have n2_:=m_ (hb);have n3_:=m_ (hi);revert n0_ n1_ n2_ n3_;clear BK113 HK HB HI0;intro BK113 HK HB HI0;(try clear hb);(try clear hb2);(try clear hk);(try clear hi);have hnb14:=NB113_0.out;have hnc14:=NB0_113.out;have hcz15_0 : w13.cell? ⟨gb113,0,none⟩ = some (.int .i64 0):=(c_ BK113.out 0).trans rfl;have hcz15_1 : w13.cell? ⟨gb113,1,none⟩ = some (.int .i64 0):=(c_ BK113.out 1).trans rfl;have hfz15_0:=f_ BK113.out 0;have hfz15_1:=f_ BK113.out 1))
    refine bodyPost_ret (results_cell_row rfl _ _ gb113 49 #[.int .i64 (wrap64 (1 + t116)),.int .i64 (wrap64 (1 + t118))] (0,0) _ rfl (by (with_reducible repeat first|apply b1_|apply b2_|apply b3_);refine blk_put (cs:=#[.int .i64 (wrap64 (1 + t116)),.int .i64 0]) ?_ 1 _ rfl;(with_reducible repeat first|apply b1_|apply b2_|apply b3_);refine blk_put (cs:=#[.int .i64 0,.int .i64 0]) ?_ 0 _ rfl;(with_reducible repeat first|apply b1_|apply b2_|apply b3_);exact BK113.out) Tryz.underlying49 rfl (by kernel_rfl)) rfl ?_
    exact ⟨eqs,by repeat (first|(with_reducible first|exact HI0.out|apply IsS56.alloc|apply IsS56.drewN|apply IsS56.drew|apply IsS56.set_1|refine IsS56.far ?_ NB0_113.out _)|exact HI0.out),puN HB.out (IsS56.ge HI0.out) GE113.out,puV HK.out GW113.out⟩
   ·replace c9:=Bool.eq_false_iff.mpr c9
    subst c9
    replace H:=ifn H
    have HC16:=m_ H
    clear H
    go_upto_if 17 with (fail)
    go_cut [17] (fun v17 wc=>∃ (kq : Nat) (x17_15 : Bool),v17 = .bool x17_15 ∧ Aside0 (spec_l71End.j1 kq t114 x17_15 s0_0 t115 = some (r1,r2,r3)) ∧ Aside0 (kq ≤ kj2) ∧ Aside0 (wc.heap[gb113]? = some (.cells #[.int .i64 0,.int .i64 0] 49 (0,0))) ∧ Aside0 (IsS56 w0 wc g s0_0 t115) ∧ Aside0 (KeepBut w wc g none) ∧ Aside0 (Below w0.heap.size w0 wc))
    case first =>
     have H:=HC16.out
     clear HC16
     by_cases c17 : t114 = 4
     ·rw [if_pos c17] at H
      have c17b0 : (t114 == 4) = true:=beq_iff_eq.mpr c17
      have c17b1 : (t114 != 4) = false:=bne_eq_false_iff_eq.mpr c17
      clear c17
      (first|rw [c17b0]|(simp only [i64_w,i32_w];rw [c17b0])|skip)
      have H':=m_ H
      clear H
      go_wp2
      go_meet
      case rel=>exact ⟨_,((t114 == 4)),(by first|rfl|(simp;done)|(simp [*];done)),H',⟨by have:=HJ2.out;first|omega|exact Nat.le_refl _⟩,⟨by (with_reducible repeat first|apply b1_|apply b2_|apply b3_);exact BK113.out⟩,⟨by repeat (first|(with_reducible first|exact HI0.out|apply IsS56.alloc|apply IsS56.drewN|apply IsS56.drew|apply IsS56.set_1|refine IsS56.far ?_ NB0_113.out _)|exact HI0.out)⟩,⟨puV HK.out GW113.out⟩,⟨puN HB.out (IsS56.ge HI0.out) GE113.out⟩⟩
     ·rw [if_neg c17] at H
      have c17b0 : (t114 == 4) = false:=beq_eq_false_iff_ne.mpr c17
      have c17b1 : (t114 != 4) = true:=bne_iff_ne.mpr c17
      (first|rw [c17b0]|(simp only [i64_w,i32_w];rw [c17b0])|skip)
      by_cases c18 : t114 = 5
      ·rw [if_pos c18] at H
       have c18b0 : (t114 == 5) = true:=beq_iff_eq.mpr c18
       have c18b1 : (t114 != 5) = false:=bne_eq_false_iff_eq.mpr c18
       clear c18
       have H':=m_ H
       clear H
       go_wp2
       go_meet
       case rel=>exact ⟨_,((t114 == 5)),(by first|rfl|(simp;done)|(simp [*];done)),H',⟨by have:=HJ2.out;first|omega|exact Nat.le_refl _⟩,⟨by (with_reducible repeat first|apply b1_|apply b2_|apply b3_);exact BK113.out⟩,⟨by repeat (first|(with_reducible first|exact HI0.out|apply IsS56.alloc|apply IsS56.drewN|apply IsS56.drew|apply IsS56.set_1|refine IsS56.far ?_ NB0_113.out _)|exact HI0.out)⟩,⟨puV HK.out GW113.out⟩,⟨puN HB.out (IsS56.ge HI0.out) GE113.out⟩⟩
      ·rw [if_neg c18] at H
       have c18b0 : (t114 == 5) = false:=beq_eq_false_iff_ne.mpr c18
       have c18b1 : (t114 != 5) = true:=bne_iff_ne.mpr c18
       have H':=m_ H
       clear H
       go_wp2
       go_meet
       case rel=>exact ⟨_,((t114 == 6)),(by first|rfl|(simp;done)|(simp [*];done)),H',⟨by have:=HJ2.out;first|omega|exact Nat.le_refl _⟩,⟨by (with_reducible repeat first|apply b1_|apply b2_|apply b3_);exact BK113.out⟩,⟨by repeat (first|(with_reducible first|exact HI0.out|apply IsS56.alloc|apply IsS56.drewN|apply IsS56.drew|apply IsS56.set_1|refine IsS56.far ?_ NB0_113.out _)|exact HI0.out)⟩,⟨puV HK.out GW113.out⟩,⟨puN HB.out (IsS56.ge HI0.out) GE113.out⟩⟩
    case rest =>
     clear HC16
     try clear c1
     try clear c2
     try clear p2
     try clear c5
     try clear c6
     try clear c6b0
     try clear c6b1
     try clear p6
     try clear c7
     try clear c7b0
     try clear c7b1
     try clear c8
     try clear c8b0
     try clear c8b1
     try clear c9
     try clear c14
     try clear c17
     try clear c17b0
     try clear c17b1
     try clear c18
     try clear c18b0
     try clear c18b1
     try clear hcz15_0
     try clear hcz15_1
     try clear hfz15_0
     try clear hfz15_1
     try clear p2
     obtain ⟨kq,x17_15,rfl,HA,HJ15,BK113,HI0,HK,HB⟩:=hcut
     cases kq with
     | zero => exact absurd HA.out (by simp [spec_l71End.j1])
     | succ kj15 =>
      have H:=HA.out
      clear HA
      simp only [spec_l71End.j1] at H
      by_cases c19 : x17_15 = true
      ·subst c19
       replace H:=ifp H rfl
       replace H:=Option.bind_eq_some_iff.mp H
       obtain ⟨⟨t120,t121⟩,A200,H⟩:=H
       replace H : ((spec_l6Rd_pick.f kj15 s0_0 t121 9).bind fun bt122=>(some (wrap64 (4 + t120),wrap64 (1 + bt122.1),bt122.2))) = some (r1,r2,r3):=H
       have A20:=m_ A200
       clear A200
       replace H:=Option.bind_eq_some_iff.mp H
       obtain ⟨⟨t122,t123⟩,A210,H⟩:=H
       replace H : (some (wrap64 (4 + t120),wrap64 (1 + t122),t123)) = some (r1,r2,r3):=H
       have A21:=m_ A210
       clear A210
       simp only [Option.some.injEq,Prod.mk.injEq] at H
       obtain ⟨rfl,rfl,rfl⟩:=H
       go_wp2_with (first|((with_reducible refine gate_callee (f:=24) rfl ?_);refine goesL_ (some 22) rfl rfl Tryz.func24 (by kernel_rfl) rfl #[.pointer (some ⟨g,0,none⟩),.int .i64 3] rfl lens ?_;(with_reducible refine (spec_l6Rd_pick.calls kj15 g s0_0 t115 3 t120 t121 w0 _ ?side1 ?side2 A20.out).mono ?_);(case side1=>repeat (first|(with_reducible first|exact HI0.out|apply IsS56.alloc|apply IsS56.drewN|apply IsS56.drew|apply IsS56.set_1|refine IsS56.far ?_ NB0_113.out _)|exact HI0.out));(case side2=>exact puN HB.out (IsS56.ge HI0.out) GE113.out);rintro e w22 ⟨rfl,hi,hb,hk⟩;refine ⟨_,rfl,?_⟩;have n0_:=m_ (KeepBut.blk hk (g':=gb113) (o:=.cells #[.int .i64 0,.int .i64 0] 49 (0,0)) (puB BK113.out) NB113_0.out (by simp));have n1_:=m_ (KeepBut.trans (puV HK.out GW113.out) hk (.inl rfl));have n2_:=m_ (hb);have n3_:=m_ (hi);revert n0_ n1_ n2_ n3_;clear BK113 HK HB HI0;intro BK113 HK HB HI0;(try clear hb);(try clear hb2);(try clear hk);(try clear hi))|((with_reducible refine gate_callee (f:=24) rfl ?_);refine goesL_ (some 25) rfl rfl Tryz.func24 (by kernel_rfl) rfl #[.pointer (some ⟨g,0,none⟩),.int .i64 9] rfl lens ?_;(with_reducible refine (spec_l6Rd_pick.calls kj15 g s0_0 t121 9 t122 t123 w0 _ ?side1 ?side2 A21.out).mono ?_);(case side1=>repeat (first|(with_reducible first|exact HI0.out|apply IsS56.alloc|apply IsS56.drewN|apply IsS56.drew|apply IsS56.set_1|refine IsS56.far ?_ NB0_113.out _)|exact HI0.out));(case side2=>exact puN HB.out (IsS56.ge HI0.out) GE113.out);rintro e w23 ⟨rfl,hi,hb,hk⟩;refine ⟨_,rfl,?_⟩;have n0_:=m_ (KeepBut.blk hk (g':=gb113) (o:=.cells #[.int .i64 0,.int .i64 0] 49 (0,0)) (puB BK113.out) NB113_0.out (by simp));have n1_:=m_ (KeepBut.trans (puV HK.out GW113.out) hk (.inl rfl));have n2_:=m_ (hb);have n3_:=m_ (hi);revert n0_ n1_ n2_ n3_;clear BK113 HK HB HI0;intro BK113 HK HB HI0;(try clear hb);(try clear hb2);(try clear hk);(try clear hi);have hnb24:=NB113_0.out;have hnc24:=NB0_113.out;have hcz25_0 : w23.cell? ⟨gb113,0,none⟩ = some (.int .i64 0):=(c_ BK113.out 0).trans rfl;have hcz25_1 : w23.cell? ⟨gb113,1,none⟩ = some (.int .i64 0):=(c_ BK113.out 1).trans rfl;have hfz25_0:=f_ BK113.out 0;have hfz25_1:=f_ BK113.out 1))
       refine bodyPost_ret (results_cell_row rfl _ _ gb113 49 #[.int .i64 (wrap64 (4 + t120)),.int .i64 (wrap64 (1 + t122))] (0,0) _ rfl (by (with_reducible repeat first|apply b1_|apply b2_|apply b3_);refine blk_put (cs:=#[.int .i64 (wrap64 (4 + t120)),.int .i64 0]) ?_ 1 _ rfl;(with_reducible repeat first|apply b1_|apply b2_|apply b3_);refine blk_put (cs:=#[.int .i64 0,.int .i64 0]) ?_ 0 _ rfl;(with_reducible repeat first|apply b1_|apply b2_|apply b3_);exact BK113.out) Tryz.underlying49 rfl (by kernel_rfl)) rfl ?_
       exact ⟨eqs,by repeat (first|(with_reducible first|exact HI0.out|apply IsS56.alloc|apply IsS56.drewN|apply IsS56.drew|apply IsS56.set_1|refine IsS56.far ?_ NB0_113.out _)|exact HI0.out),puN HB.out (IsS56.ge HI0.out) GE113.out,puV HK.out GW113.out⟩
      ·replace c19:=Bool.eq_false_iff.mpr c19
       subst c19
       replace H:=ifn H
       have HC26:=m_ H
       clear H
       go_upto_if 28 with (fail)
       go_cut [28] (fun v28 wc=>∃ (kq : Nat) (x28_25 : Bool),v28 = .bool x28_25 ∧ Aside0 (spec_l71End.j2 kq x28_25 s0_0 t115 = some (r1,r2,r3)) ∧ Aside0 (kq ≤ kj15) ∧ Aside0 (wc.heap[gb113]? = some (.cells #[.int .i64 0,.int .i64 0] 49 (0,0))) ∧ Aside0 (IsS56 w0 wc g s0_0 t115) ∧ Aside0 (KeepBut w wc g none) ∧ Aside0 (Below w0.heap.size w0 wc))
       case first =>
        have H:=HC26.out
        clear HC26
        by_cases c27 : t114 = 7
        ·rw [if_pos c27] at H
         have c27b0 : (t114 == 7) = true:=beq_iff_eq.mpr c27
         have c27b1 : (t114 != 7) = false:=bne_eq_false_iff_eq.mpr c27
         clear c27
         (first|rw [c27b0]|(simp only [i64_w,i32_w];rw [c27b0])|skip)
         have H':=m_ H
         clear H
         go_wp2
         go_meet
         case rel=>exact ⟨_,((t114 == 7)),(by first|rfl|(simp;done)|(simp [*];done)),H',⟨by have:=HJ2.out;have:=HJ15.out;first|omega|exact Nat.le_refl _⟩,⟨by (with_reducible repeat first|apply b1_|apply b2_|apply b3_);exact BK113.out⟩,⟨by repeat (first|(with_reducible first|exact HI0.out|apply IsS56.alloc|apply IsS56.drewN|apply IsS56.drew|apply IsS56.set_1|refine IsS56.far ?_ NB0_113.out _)|exact HI0.out)⟩,⟨puV HK.out GW113.out⟩,⟨puN HB.out (IsS56.ge HI0.out) GE113.out⟩⟩
        ·rw [if_neg c27] at H
         have c27b0 : (t114 == 7) = false:=beq_eq_false_iff_ne.mpr c27
         have c27b1 : (t114 != 7) = true:=bne_iff_ne.mpr c27
         (first|rw [c27b0]|(simp only [i64_w,i32_w];rw [c27b0])|skip)
         by_cases c28 : t114 = 8
         ·rw [if_pos c28] at H
          have c28b0 : (t114 == 8) = true:=beq_iff_eq.mpr c28
          have c28b1 : (t114 != 8) = false:=bne_eq_false_iff_eq.mpr c28
          clear c28
          have H':=m_ H
          clear H
          go_wp2
          go_meet
          case rel=>exact ⟨_,((t114 == 8)),(by first|rfl|(simp;done)|(simp [*];done)),H',⟨by have:=HJ2.out;have:=HJ15.out;first|omega|exact Nat.le_refl _⟩,⟨by (with_reducible repeat first|apply b1_|apply b2_|apply b3_);exact BK113.out⟩,⟨by repeat (first|(with_reducible first|exact HI0.out|apply IsS56.alloc|apply IsS56.drewN|apply IsS56.drew|apply IsS56.set_1|refine IsS56.far ?_ NB0_113.out _)|exact HI0.out)⟩,⟨puV HK.out GW113.out⟩,⟨puN HB.out (IsS56.ge HI0.out) GE113.out⟩⟩
         ·rw [if_neg c28] at H
          have c28b0 : (t114 == 8) = false:=beq_eq_false_iff_ne.mpr c28
          have c28b1 : (t114 != 8) = true:=bne_iff_ne.mpr c28
          by_cases c29 : t114 = 9
          ·rw [if_pos c29] at H
           have c29b0 : (t114 == 9) = true:=beq_iff_eq.mpr c29
           have c29b1 : (t114 != 9) = false:=bne_eq_false_iff_eq.mpr c29
           clear c29
           have H':=m_ H
           clear H
           go_wp2
           go_meet
           case rel=>exact ⟨_,((t114 == 9)),(by first|rfl|(simp;done)|(simp [*];done)),H',⟨by have:=HJ2.out;have:=HJ15.out;first|omega|exact Nat.le_refl _⟩,⟨by (with_reducible repeat first|apply b1_|apply b2_|apply b3_);exact BK113.out⟩,⟨by repeat (first|(with_reducible first|exact HI0.out|apply IsS56.alloc|apply IsS56.drewN|apply IsS56.drew|apply IsS56.set_1|refine IsS56.far ?_ NB0_113.out _)|exact HI0.out)⟩,⟨puV HK.out GW113.out⟩,⟨puN HB.out (IsS56.ge HI0.out) GE113.out⟩⟩
          ·rw [if_neg c29] at H
           have c29b0 : (t114 == 9) = false:=beq_eq_false_iff_ne.mpr c29
           have c29b1 : (t114 != 9) = true:=bne_iff_ne.mpr c29
           have H':=m_ H
           clear H
           go_wp2
           go_meet
           case rel=>exact ⟨_,((t114 == 10)),(by first|rfl|(simp;done)|(simp [*];done)),H',⟨by have:=HJ2.out;have:=HJ15.out;first|omega|exact Nat.le_refl _⟩,⟨by (with_reducible repeat first|apply b1_|apply b2_|apply b3_);exact BK113.out⟩,⟨by repeat (first|(with_reducible first|exact HI0.out|apply IsS56.alloc|apply IsS56.drewN|apply IsS56.drew|apply IsS56.set_1|refine IsS56.far ?_ NB0_113.out _)|exact HI0.out)⟩,⟨puV HK.out GW113.out⟩,⟨puN HB.out (IsS56.ge HI0.out) GE113.out⟩⟩
       case rest =>
        clear HC26
        try clear c1
        try clear c2
        try clear p2
        try clear c5
        try clear c6
        try clear c6b0
        try clear c6b1
        try clear p6
        try clear c7
        try clear c7b0
        try clear c7b1
        try clear c8
        try clear c8b0
        try clear c8b1
        try clear c9
        try clear c14
        try clear c17
        try clear c17b0
        try clear c17b1
        try clear c18
        try clear c18b0
        try clear c18b1
        try clear c19
        try clear c24
        try clear c27
        try clear c27b0
        try clear c27b1
        try clear c28
        try clear c28b0
        try clear c28b1
        try clear c29
        try clear c29b0
        try clear c29b1
        try clear hcz15_0
        try clear hcz15_1
        try clear hcz25_0
        try clear hcz25_1
        try clear hfz15_0
        try clear hfz15_1
        try clear hfz25_0
        try clear hfz25_1
        try clear p2
        try clear p6
        obtain ⟨kq,x28_25,rfl,HA,HJ25,BK113,HI0,HK,HB⟩:=hcut
        cases kq with
        | zero => exact absurd HA.out (by simp [spec_l71End.j2])
        | succ kj25 =>
         have H:=HA.out
         clear HA
         simp only [spec_l71End.j2] at H
         by_cases c30 : x28_25 = true
         ·subst c30
          replace H:=ifp H rfl
          replace H:=Option.bind_eq_some_iff.mp H
          obtain ⟨⟨t124,t125⟩,A310,H⟩:=H
          replace H : (some (9,wrap64 (10 + t124),t125)) = some (r1,r2,r3):=H
          have A31:=m_ A310
          clear A310
          simp only [Option.some.injEq,Prod.mk.injEq] at H
          obtain ⟨rfl,rfl,rfl⟩:=H
          go_wp2_with (first|((with_reducible refine gate_callee (f:=24) rfl ?_);refine goesL_ (some 34) rfl rfl Tryz.func24 (by kernel_rfl) rfl #[.pointer (some ⟨g,0,none⟩),.int .i64 8] rfl lens ?_;(with_reducible refine (spec_l6Rd_pick.calls kj25 g s0_0 t115 8 t124 t125 w0 _ ?side1 ?side2 A31.out).mono ?_);(case side1=>repeat (first|(with_reducible first|exact HI0.out|apply IsS56.alloc|apply IsS56.drewN|apply IsS56.drew|apply IsS56.set_1|refine IsS56.far ?_ NB0_113.out _)|exact HI0.out));(case side2=>exact puN HB.out (IsS56.ge HI0.out) GE113.out);rintro e w32 ⟨rfl,hi,hb,hk⟩;refine ⟨_,rfl,?_⟩;have n0_:=m_ (KeepBut.blk hk (g':=gb113) (o:=.cells #[.int .i64 0,.int .i64 0] 49 (0,0)) (puB BK113.out) NB113_0.out (by simp));have n1_:=m_ (KeepBut.trans (puV HK.out GW113.out) hk (.inl rfl));have n2_:=m_ (hb);have n3_:=m_ (hi);revert n0_ n1_ n2_ n3_;clear BK113 HK HB HI0;intro BK113 HK HB HI0;(try clear hb);(try clear hb2);(try clear hk);(try clear hi);have hnb33:=NB113_0.out;have hnc33:=NB0_113.out;have hcz34_0 : w32.cell? ⟨gb113,0,none⟩ = some (.int .i64 0):=(c_ BK113.out 0).trans rfl;have hcz34_1 : w32.cell? ⟨gb113,1,none⟩ = some (.int .i64 0):=(c_ BK113.out 1).trans rfl;have hfz34_0:=f_ BK113.out 0;have hfz34_1:=f_ BK113.out 1))
          refine bodyPost_ret (results_cell_row rfl _ _ gb113 49 #[.int .i64 9,.int .i64 (wrap64 (10 + t124))] (0,0) _ rfl (by (with_reducible repeat first|apply b1_|apply b2_|apply b3_);refine blk_put (cs:=#[.int .i64 9,.int .i64 0]) ?_ 1 _ rfl;(with_reducible repeat first|apply b1_|apply b2_|apply b3_);refine blk_put (cs:=#[.int .i64 0,.int .i64 0]) ?_ 0 _ rfl;(with_reducible repeat first|apply b1_|apply b2_|apply b3_);exact BK113.out) Tryz.underlying49 rfl (by kernel_rfl)) rfl ?_
          exact ⟨eqs,by repeat (first|(with_reducible first|exact HI0.out|apply IsS56.alloc|apply IsS56.drewN|apply IsS56.drew|apply IsS56.set_1|refine IsS56.far ?_ NB0_113.out _)|exact HI0.out),puN HB.out (IsS56.ge HI0.out) GE113.out,puV HK.out GW113.out⟩
         ·replace c30:=Bool.eq_false_iff.mpr c30
          subst c30
          replace H:=ifn H
          replace H:=Option.bind_eq_some_iff.mp H
          obtain ⟨⟨t126,t127⟩,A350,H⟩:=H
          replace H : ((spec_l6Rd_pick.f kj25 s0_0 t127 20).bind fun bt128=>(some (t126,bt128.1,bt128.2))) = some (r1,r2,r3):=H
          have A35:=m_ A350
          clear A350
          replace H:=Option.bind_eq_some_iff.mp H
          obtain ⟨⟨t128,t129⟩,A360,H⟩:=H
          replace H : (some (t126,t128,t129)) = some (r1,r2,r3):=H
          have A36:=m_ A360
          clear A360
          simp only [Option.some.injEq,Prod.mk.injEq] at H
          obtain ⟨rfl,rfl,rfl⟩:=H
          go_wp2_with (first|((with_reducible refine gate_callee (f:=24) rfl ?_);refine goesL_ (some 38) rfl rfl Tryz.func24 (by kernel_rfl) rfl #[.pointer (some ⟨g,0,none⟩),.int .i64 12] rfl lens ?_;(with_reducible refine (spec_l6Rd_pick.calls kj25 g s0_0 t115 12 t126 t127 w0 _ ?side1 ?side2 A35.out).mono ?_);(case side1=>repeat (first|(with_reducible first|exact HI0.out|apply IsS56.alloc|apply IsS56.drewN|apply IsS56.drew|apply IsS56.set_1|refine IsS56.far ?_ NB0_113.out _)|exact HI0.out));(case side2=>exact puN HB.out (IsS56.ge HI0.out) GE113.out);rintro e w37 ⟨rfl,hi,hb,hk⟩;refine ⟨_,rfl,?_⟩;have n0_:=m_ (KeepBut.blk hk (g':=gb113) (o:=.cells #[.int .i64 0,.int .i64 0] 49 (0,0)) (puB BK113.out) NB113_0.out (by simp));have n1_:=m_ (KeepBut.trans (puV HK.out GW113.out) hk (.inl rfl));have n2_:=m_ (hb);have n3_:=m_ (hi);revert n0_ n1_ n2_ n3_;clear BK113 HK HB HI0;intro BK113 HK HB HI0;(try clear hb);(try clear hb2);(try clear hk);(try clear hi))|((with_reducible refine gate_callee (f:=24) rfl ?_);refine goesL_ (some 40) rfl rfl Tryz.func24 (by kernel_rfl) rfl #[.pointer (some ⟨g,0,none⟩),.int .i64 20] rfl lens ?_;(with_reducible refine (spec_l6Rd_pick.calls kj25 g s0_0 t127 20 t128 t129 w0 _ ?side1 ?side2 A36.out).mono ?_);(case side1=>repeat (first|(with_reducible first|exact HI0.out|apply IsS56.alloc|apply IsS56.drewN|apply IsS56.drew|apply IsS56.set_1|refine IsS56.far ?_ NB0_113.out _)|exact HI0.out));(case side2=>exact puN HB.out (IsS56.ge HI0.out) GE113.out);rintro e w38 ⟨rfl,hi,hb,hk⟩;refine ⟨_,rfl,?_⟩;have n0_:=m_ (KeepBut.blk hk (g':=gb113) (o:=.cells #[.int .i64 0,.int .i64 0] 49 (0,0)) (puB BK113.out) NB113_0.out (by simp));have n1_:=m_ (KeepBut.trans (puV HK.out GW113.out) hk (.inl rfl));have n2_:=m_ (hb);have n3_:=m_ (hi);revert n0_ n1_ n2_ n3_;clear BK113 HK HB HI0;intro BK113 HK HB HI0;(try clear hb);(try clear hb2);(try clear hk);(try clear hi);have hnb39:=NB113_0.out;have hnc39:=NB0_113.out;have hcz40_0 : w38.cell? ⟨gb113,0,none⟩ = some (.int .i64 0):=(c_ BK113.out 0).trans rfl;have hcz40_1 : w38.cell? ⟨gb113,1,none⟩ = some (.int .i64 0):=(c_ BK113.out 1).trans rfl;have hfz40_0:=f_ BK113.out 0;have hfz40_1:=f_ BK113.out 1))
          refine bodyPost_ret (results_cell_row rfl _ _ gb113 49 #[.int .i64 t126,.int .i64 t128] (0,0) _ rfl (by (with_reducible repeat first|apply b1_|apply b2_|apply b3_);refine blk_put (cs:=#[.int .i64 t126,.int .i64 0]) ?_ 1 _ rfl;(with_reducible repeat first|apply b1_|apply b2_|apply b3_);refine blk_put (cs:=#[.int .i64 0,.int .i64 0]) ?_ 0 _ rfl;(with_reducible repeat first|apply b1_|apply b2_|apply b3_);exact BK113.out) Tryz.underlying49 rfl (by kernel_rfl)) rfl ?_
          exact ⟨eqs,by repeat (first|(with_reducible first|exact HI0.out|apply IsS56.alloc|apply IsS56.drewN|apply IsS56.drew|apply IsS56.set_1|refine IsS56.far ?_ NB0_113.out _)|exact HI0.out),puN HB.out (IsS56.ge HI0.out) GE113.out,puV HK.out GW113.out⟩

end Go.Proofs.YtkcjmmhleepjeaaGreatDoor.A
