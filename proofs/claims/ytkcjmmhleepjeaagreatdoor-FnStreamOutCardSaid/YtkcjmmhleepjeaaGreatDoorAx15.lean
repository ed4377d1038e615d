-- Printed by myprint.py (wip/tools) out of the translation. Not trusted: Lean checks it.
import Derived.Test.YtkcjmmhleepjeaaGreatDoorAx0
import Derived.Test.YtkcjmmhleepjeaaGreatDoorAx8
import Derived.Test.YtkcjmmhleepjeaaGreatDoorAx12
import Derived.Test.YtkcjmmhleepjeaaGreatDoorAx14
namespace Go.Proofs.YtkcjmmhleepjeaaGreatDoor.A
open Go.RowKit Go.Proofs.YtkcjmmhleepjeaaGreatDoorW.PrintWords Go.Proofs.YtkcjmmhleepjeaaGreatDoorW.PrintLast Go.Proofs.YtkcjmmhleepjeaaGreatDoorW.PrintMore
attribute [local go_sem] max2_int min2_int max_two min_two max_three min_three max_four min_four
set_option linter.unusedVariables false
set_option maxHeartbeats 8000000
set_option maxRecDepth 100000
set_option linter.unusedSimpArgs false

/-! ### impl_StreamOk: function 21 -/
def impl_StreamOk.f (k : Nat) (a0_0 : ByteArray) (l0_1 : List (S31)) : Option (Bool) := (impl_TextOk.f a0_0).bind fun t440 => (if t440 = true then ((impl_pieces.f k a0_0).bind fun t441 => ((slices_EqualFunc_Piece.f k l0_1 t441).bind fun t444 => (some t444))) else (some false))
theorem impl_StreamOk.mono : ∀ a0 a1 k, LeO (impl_StreamOk.f k a0 a1) (impl_StreamOk.f (k + 1) a0 a1) := by
 intro a0 a1 k
 unfold impl_StreamOk.f
 exact leo2 impl_pieces.mono slices_EqualFunc_Piece.mono
theorem impl_StreamOk.calls (k : Nat) (a0_0 : ByteArray) (A0_1 : Option Addr) (c0_1 : Nat) (l0_1 : List (S31)) (r : Bool) (w : World) (hr0_1 : Kd.C k31 w A0_1 l0_1.length l0_1) (hc0_1 : l0_1.length ≤ c0_1) (hG : GV w) (h : impl_StreamOk.f k a0_0 l0_1 = some r) :
  Calls Tryz.prog 21 #[.agg #[.string a0_0,.slice A0_1 l0_1.length c0_1]] w fun e w'=>e = .returned (.bool r) ∧ Below w.heap.size w w':=by
 have hu25:=Tryz.underlying25
 have HG:=m_ hG
 clear hG
 have HR0_1:=m_ hr0_1
 have HC0_1:=m_ hc0_1
 clear hr0_1 hc0_1
 have HB:=m_ (Below.refl w.heap.size w)
 have H : ((impl_TextOk.f a0_0).bind fun t440=>(if t440 = true then ((impl_pieces.f k a0_0).bind fun t441=>((slices_EqualFunc_Piece.f k l0_1 t441).bind fun t444=>(some t444))) else (some false))) = some r:=h
 clear h
 replace H:=Option.bind_eq_some_iff.mp H
 obtain ⟨t440,A20,H⟩:=H
 have A2:=m_ A20
 clear A20
 by_cases c3 : t440 = true
 ·subst c3
  replace H:=ifp H rfl
  replace H:=Option.bind_eq_some_iff.mp H
  obtain ⟨t441,A40,H⟩:=H
  have A4:=m_ A40
  clear A40
  replace H:=Option.bind_eq_some_iff.mp H
  obtain ⟨t444,A50,H⟩:=H
  have A5:=m_ A50
  clear A50
  obtain rfl:=Option.some.inj H
  go_enter Tryz.func21,Tryz.ntmps21
  try go_wp2_with (first|((with_reducible refine gate_dst (N:=1) rfl ?_);refine box_event ?hg (N:=1) ?hd (cs:=#[.string a0_0,.slice A0_1 l0_1.length c0_1]) (t:=25) ?hr ?_;(case hd=>rfl);(case hg=>rfl);(case hr=>first|(go_simp;done)|(go_simp;rfl));intro gb439 hg w6 hbox hb;have n0_:=m_ (l5_ (puL HB.out) hb);have n1_:=m_ (hbox);have n2_:=m_ ((by rw [hg];exact (l6_ (puL HB.out)) : w.heap.size ≤ gb439));have n3_:=m_ ((by rw [hg];exact (l6_ (puL HB.out)) : w.heap.size ≤ gb439));revert n0_ n1_ n2_ n3_;clear HB;intro HB BK439 GW439 GE439;clear hb hbox hg;have hcz7_0 : w6.cell? ⟨gb439,0,none⟩ = some (.string a0_0):=(c_ BK439.out 0).trans rfl;have hcz7_1 : w6.cell? ⟨gb439,1,none⟩ = some (.slice A0_1 l0_1.length c0_1):=(c_ BK439.out 1).trans rfl)|((with_reducible refine gate_callee (f:=35) rfl ?_);refine goesL_ (some 5) rfl rfl Tryz.func35 (by kernel_rfl) rfl #[.string a0_0] rfl lens ?_;(with_reducible refine (impl_TextOk.calls a0_0 true _ A2.out).mono ?_);rintro e w8 ⟨rfl,hb⟩;refine ⟨_,rfl,?_⟩;have n0_:=m_ (blk_below (g:=gb439) (o:=.cells #[.string a0_0,.slice A0_1 l0_1.length c0_1] 25 (0,0)) (puB BK439.out) hb);have n1_:=m_ (l5_ (puM HB.out GE439.out) hb);revert n0_ n1_;clear BK439 HB;intro BK439 HB;(try clear hb);(try clear hb2);(try clear hk);(try clear hi)))
  have n0_:=m_ (b2_ BK439.out)
  have n1_:=m_ (l3_ HB.out)
  clear BK439
  clear HB
  have BK439:=n0_
  have HB:=n1_
  clear n0_ n1_
  refine start_ (n:=7) (S:=fun w'=>w'.cell? ⟨gb439,0,none⟩ = some (.string a0_0) ∧ w'.cell? ⟨gb439,1,none⟩ = some (.slice A0_1 l0_1.length c0_1)) (ds:=[]) #[false,false,false,false,false,false,false] (by kernel_rfl) rfl rfl ⟨(c_ BK439.out 0).trans rfl,(c_ BK439.out 1).trans rfl⟩ (fun hHeld=>?_)
  generalize w8.drew = w9 at BK439 HB hHeld ⊢
  refine pureK 0 (some 7) ?_
  refine pureK 2 (some 9) ?_
  refine take_ (i:=1) (N:=some 8) (v:=?_) (a':=?_) #[true,true,true,false,false,false,false] rfl rfl (by kernel_rfl) (fun _ _ _ h=>h) (Or.inl ⟨by rfl,?_⟩) hHeld ?_ ?_
  rotate_left
  ·rintro w' ⟨s0,s1⟩
   go_simp
   with_reducible rfl
  rotate_left
  ·simp only [Act.put,s1_,s2_,s3_,i64_w,i32_w]
   rfl
  refine take_ (i:=3) (N:=some 10) (v:=?_) (a':=?_) #[true,true,true,true,false,false,false] rfl rfl (by kernel_rfl) (fun _ _ _ h=>h) (Or.inl ⟨by rfl,?_⟩) hHeld ?_ ?_
  rotate_left
  ·rintro w' ⟨s0,s1⟩
   go_simp
   with_reducible rfl
  rotate_left
  ·simp only [Act.put,s1_,s2_,s3_,i64_w,i32_w]
   rfl
  refine one_ (i:=4) (N:=some 11) #[true,true,true,true,true,false,false] rfl rfl (by kernel_rfl) (by decide) (fun K hK=>?_)
  refine goes_ Tryz.func38 (by kernel_rfl) rfl #[.string a0_0] (by rfl) rfl rfl lens ?_
  with_reducible refine (impl_pieces.calls k a0_0 t441 _ ?side1 A4.out).mono ?_
  (case side1=>first|(with_reducible exact HG.out)|exact GV_below HG.out (puM HB.out GE439.out))
  rintro e w10 ⟨v442,rfl,ho0,hb⟩
  refine ⟨_,rfl,?_⟩
  have n0_:=m_ (Kd.R_lower ho0 (l6_ (puM HB.out GE439.out)))
  have n1_:=m_ (blk_below (g:=gb439) (o:=.cells #[.string a0_0,.slice A0_1 l0_1.length c0_1] 25 (0,0)) (puB BK439.out) hb)
  have n2_:=m_ (l5_ (puM HB.out GE439.out) hb)
  clear BK439
  clear HB
  have HO443:=n0_
  have BK439:=n1_
  have HB:=n2_
  clear n0_ n1_ n2_
  (try clear hb)
  (try clear hb2)
  (try clear hk)
  (try clear hi)
  (try clear ho0)
  obtain ⟨Ao11,co11,eo11⟩:=Kd.R_slice HO443.out
  (first|subst eo11|(injection eo11 with f1_ f2_ f3_;have f4_:=f1_.symm;have f5_:=f3_.symm;clear f1_ f2_ f3_;subst f4_;subst f5_))
  refine hK.out _ _ ⟨(c_ BK439.out 0).trans rfl,(c_ BK439.out 1).trans rfl⟩ (fun hHeld=>?_)
  clear hK K
  refine norm_ (a':=?_) ?_ ?_
  rotate_left
  ·show Act.put _ (some 11) _ = _
   simp only [Act.put,s1_,s2_,s3_,i64_w,i32_w]
   rfl
  refine one_ (i:=5) (N:=some 12) #[true,true,true,true,true,true,false] rfl rfl (by kernel_rfl) (by decide) (fun K hK=>?_)
  refine goes_ Tryz.func39 (by kernel_rfl) rfl #[.slice A0_1 l0_1.length c0_1,.slice Ao11 t441.length co11,.func (.func 40) #[] #[]] (by rfl) rfl rfl lens ?_
  with_reducible refine (slices_EqualFunc_Piece.calls k _ _ l0_1 _ _ t441 t444 _ ?side1 ?side2 ?side3 ?side4 A5.out).mono ?_
  (case side1=>exact puC (Kd.C_below HR0_1.out HB.out))
  (case side2=>exact HC0_1.out)
  (case side3=>exact puC (Kd.R_reads' HO443.out).2.2)
  (case side4=>exact (Kd.R_reads' HO443.out).2.1)
  rintro e w12 ⟨rfl,hb⟩
  refine ⟨_,rfl,?_⟩
  have n0_:=m_ (Kd.R_below (puR HO443.out) hb)
  have n1_:=m_ (blk_below (g:=gb439) (o:=.cells #[.string a0_0,.slice A0_1 l0_1.length c0_1] 25 (0,0)) (puB BK439.out) hb)
  have n2_:=m_ (l5_ (puM HB.out GE439.out) hb)
  clear HO443
  clear BK439
  clear HB
  have HO443:=n0_
  have BK439:=n1_
  have HB:=n2_
  clear n0_ n1_ n2_
  (try clear hb)
  (try clear hb2)
  (try clear hk)
  (try clear hi)
  refine hK.out _ _ ⟨(c_ BK439.out 0).trans rfl,(c_ BK439.out 1).trans rfl⟩ (fun hHeld=>?_)
  clear hK K
  refine norm_ (a':=?_) ?_ ?_
  rotate_left
  ·show Act.put _ (some 12) _ = _
   simp only [Act.put,s1_,s2_,s3_,i64_w,i32_w]
   rfl
  refine pureK 6 (some 2) ?_
  refine done_ (by kernel_rfl) ?_
  try go_wp2
  go_ret
  exact ⟨eqs,puM HB.out GE439.out⟩
 ·replace c3:=Bool.eq_false_iff.mpr c3
  subst c3
  replace H:=ifn H
  obtain rfl:=Option.some.inj H
  go_enter Tryz.func21,Tryz.ntmps21
  go_wp2_with (first|((with_reducible refine gate_dst (N:=1) rfl ?_);refine box_event ?hg (N:=1) ?hd (cs:=#[.string a0_0,.slice A0_1 l0_1.length c0_1]) (t:=25) ?hr ?_;(case hd=>rfl);(case hg=>rfl);(case hr=>first|(go_simp;done)|(go_simp;rfl));intro gb439 hg w13 hbox hb;have n0_:=m_ (l5_ (puL HB.out) hb);have n1_:=m_ (hbox);have n2_:=m_ ((by rw [hg];exact (l6_ (puL HB.out)) : w.heap.size ≤ gb439));have n3_:=m_ ((by rw [hg];exact (l6_ (puL HB.out)) : w.heap.size ≤ gb439));revert n0_ n1_ n2_ n3_;clear HB;intro HB BK439 GW439 GE439;clear hb hbox hg;have hcz14_0 : w13.cell? ⟨gb439,0,none⟩ = some (.string a0_0):=(c_ BK439.out 0).trans rfl;have hcz14_1 : w13.cell? ⟨gb439,1,none⟩ = some (.slice A0_1 l0_1.length c0_1):=(c_ BK439.out 1).trans rfl)|((with_reducible refine gate_callee (f:=35) rfl ?_);refine goesL_ (some 5) rfl rfl Tryz.func35 (by kernel_rfl) rfl #[.string a0_0] rfl lens ?_;(with_reducible refine (impl_TextOk.calls a0_0 false _ A2.out).mono ?_);rintro e w15 ⟨rfl,hb⟩;refine ⟨_,rfl,?_⟩;have n0_:=m_ (blk_below (g:=gb439) (o:=.cells #[.string a0_0,.slice A0_1 l0_1.length c0_1] 25 (0,0)) (puB BK439.out) hb);have n1_:=m_ (l5_ (puM HB.out GE439.out) hb);revert n0_ n1_;clear BK439 HB;intro BK439 HB;(try clear hb);(try clear hb2);(try clear hk);(try clear hi)))
  go_ret
  exact ⟨eqs,puM HB.out GE439.out⟩

/-! ### spec_l2Byte: function 47 -/
def spec_l2Byte.f (a0 : Int) : Option (Bool) := if a0 ≥ 97 then (if a0 ≤ 122 then (some true) else (if a0 ≥ 48 then (if a0 ≤ 57 then (some true) else (if a0 = 64 then (some true) else (if a0 = 58 then (some true) else (some (a0 == 59))))) else (if a0 = 64 then (some true) else (if a0 = 58 then (some true) else (some (a0 == 59)))))) else (if a0 ≥ 48 then (if a0 ≤ 57 then (some true) else (if a0 = 64 then (some true) else (if a0 = 58 then (some true) else (some (a0 == 59))))) else (if a0 = 64 then (some true) else (if a0 = 58 then (some true) else (some (a0 == 59)))))
theorem spec_l2Byte.calls (a0 : Int) (r : Bool) (w : World) (h : spec_l2Byte.f a0 = some r) :
  Calls Tryz.prog 47 #[.int .u8 a0] w fun e w'=>e = .returned (.bool r) ∧ Drawn0 w w':=by
 have H : (if a0 ≥ 97 then (if a0 ≤ 122 then (some true) else (if a0 ≥ 48 then (if a0 ≤ 57 then (some true) else (if a0 = 64 then (some true) else (if a0 = 58 then (some true) else (some (a0 == 59))))) else (if a0 = 64 then (some true) else (if a0 = 58 then (some true) else (some (a0 == 59)))))) else (if a0 ≥ 48 then (if a0 ≤ 57 then (some true) else (if a0 = 64 then (some true) else (if a0 = 58 then (some true) else (some (a0 == 59))))) else (if a0 = 64 then (some true) else (if a0 = 58 then (some true) else (some (a0 == 59)))))) = some r:=h
 clear h
 by_cases c2 : a0 ≥ 97
 ·rw [if_pos c2] at H
  have c2b0 : decide (97 ≤ a0) = true:=decide_eq_true c2
  clear c2
  by_cases c3 : a0 ≤ 122
  ·rw [if_pos c3] at H
   have c3b0 : decide (a0 ≤ 122) = true:=decide_eq_true c3
   clear c3
   obtain rfl:=Option.some.inj H
   go_enter Tryz.func47,Tryz.ntmps47
   go_wp2
   go_ret
   exact ⟨by first|rfl|(simp;done)|(simp [*];done),drn⟩
  ·rw [if_neg c3] at H
   have c3b0 : decide (a0 ≤ 122) = false:=decide_eq_false c3
   clear c3
   by_cases c4 : a0 ≥ 48
   ·rw [if_pos c4] at H
    have c4b0 : decide (48 ≤ a0) = true:=decide_eq_true c4
    clear c4
    by_cases c5 : a0 ≤ 57
    ·rw [if_pos c5] at H
     have c5b0 : decide (a0 ≤ 57) = true:=decide_eq_true c5
     clear c5
     obtain rfl:=Option.some.inj H
     go_enter Tryz.func47,Tryz.ntmps47
     go_wp2
     go_ret
     exact ⟨by first|rfl|(simp;done)|(simp [*];done),drn⟩
    ·rw [if_neg c5] at H
     have c5b0 : decide (a0 ≤ 57) = false:=decide_eq_false c5
     clear c5
     by_cases c6 : a0 = 64
     ·rw [if_pos c6] at H
      have c6b0 : (a0 == 64) = true:=beq_iff_eq.mpr c6
      have c6b1 : (a0 != 64) = false:=bne_eq_false_iff_eq.mpr c6
      clear c6
      obtain rfl:=Option.some.inj H
      go_enter Tryz.func47,Tryz.ntmps47
      go_wp2
      go_ret
      exact ⟨by first|rfl|(simp;done)|(simp [*];done),drn⟩
     ·rw [if_neg c6] at H
      have c6b0 : (a0 == 64) = false:=beq_eq_false_iff_ne.mpr c6
      have c6b1 : (a0 != 64) = true:=bne_iff_ne.mpr c6
      by_cases c7 : a0 = 58
      ·rw [if_pos c7] at H
       have c7b0 : (a0 == 58) = true:=beq_iff_eq.mpr c7
       have c7b1 : (a0 != 58) = false:=bne_eq_false_iff_eq.mpr c7
       clear c7
       obtain rfl:=Option.some.inj H
       go_enter Tryz.func47,Tryz.ntmps47
       go_wp2
       go_ret
       exact ⟨by first|rfl|(simp;done)|(simp [*];done),drn⟩
      ·rw [if_neg c7] at H
       have c7b0 : (a0 == 58) = false:=beq_eq_false_iff_ne.mpr c7
       have c7b1 : (a0 != 58) = true:=bne_iff_ne.mpr c7
       obtain rfl:=Option.some.inj H
       go_enter Tryz.func47,Tryz.ntmps47
       go_wp2
       go_ret
       exact ⟨by first|rfl|(simp;done)|(simp [*];done),drn⟩
   ·rw [if_neg c4] at H
    have c4b0 : decide (48 ≤ a0) = false:=decide_eq_false c4
    clear c4
    by_cases c8 : a0 = 64
    ·rw [if_pos c8] at H
     have c8b0 : (a0 == 64) = true:=beq_iff_eq.mpr c8
     have c8b1 : (a0 != 64) = false:=bne_eq_false_iff_eq.mpr c8
     clear c8
     obtain rfl:=Option.some.inj H
     go_enter Tryz.func47,Tryz.ntmps47
     go_wp2
     go_ret
     exact ⟨by first|rfl|(simp;done)|(simp [*];done),drn⟩
    ·rw [if_neg c8] at H
     have c8b0 : (a0 == 64) = false:=beq_eq_false_iff_ne.mpr c8
     have c8b1 : (a0 != 64) = true:=bne_iff_ne.mpr c8
     by_cases c9 : a0 = 58
     ·rw [if_pos c9] at H
      have c9b0 : (a0 == 58) = true:=beq_iff_eq.mpr c9
      have c9b1 : (a0 != 58) = false:=bne_eq_false_iff_eq.mpr c9
      clear c9
      obtain rfl:=Option.some.inj H
      go_enter Tryz.func47,Tryz.ntmps47
      go_wp2
      go_ret
      exact ⟨by first|rfl|(simp;done)|(simp [*];done),drn⟩
     ·rw [if_neg c9] at H
      have c9b0 : (a0 == 58) = false:=beq_eq_false_iff_ne.mpr c9
      have c9b1 : (a0 != 58) = true:=bne_iff_ne.mpr c9
      obtain rfl:=Option.some.inj H
      go_enter Tryz.func47,Tryz.ntmps47
      go_wp2
      go_ret
      exact ⟨by first|rfl|(simp;done)|(simp [*];done),drn⟩
 ·rw [if_neg c2] at H
  have c2b0 : decide (97 ≤ a0) = false:=decide_eq_false c2
  clear c2
  by_cases c10 : a0 ≥ 48
  ·rw [if_pos c10] at H
   have c10b0 : decide (48 ≤ a0) = true:=decide_eq_true c10
   clear c10
   by_cases c11 : a0 ≤ 57
   ·rw [if_pos c11] at H
    have c11b0 : decide (a0 ≤ 57) = true:=decide_eq_true c11
    clear c11
    obtain rfl:=Option.some.inj H
    go_enter Tryz.func47,Tryz.ntmps47
    go_wp2
    go_ret
    exact ⟨by first|rfl|(simp;done)|(simp [*];done),drn⟩
   ·rw [if_neg c11] at H
    have c11b0 : decide (a0 ≤ 57) = false:=decide_eq_false c11
    clear c11
    by_cases c12 : a0 = 64
    ·rw [if_pos c12] at H
     have c12b0 : (a0 == 64) = true:=beq_iff_eq.mpr c12
     have c12b1 : (a0 != 64) = false:=bne_eq_false_iff_eq.mpr c12
     clear c12
     obtain rfl:=Option.some.inj H
     go_enter Tryz.func47,Tryz.ntmps47
     go_wp2
     go_ret
     exact ⟨by first|rfl|(simp;done)|(simp [*];done),drn⟩
    ·rw [if_neg c12] at H
     have c12b0 : (a0 == 64) = false:=beq_eq_false_iff_ne.mpr c12
     have c12b1 : (a0 != 64) = true:=bne_iff_ne.mpr c12
     by_cases c13 : a0 = 58
     ·rw [if_pos c13] at H
      have c13b0 : (a0 == 58) = true:=beq_iff_eq.mpr c13
      have c13b1 : (a0 != 58) = false:=bne_eq_false_iff_eq.mpr c13
      clear c13
      obtain rfl:=Option.some.inj H
      go_enter Tryz.func47,Tryz.ntmps47
      go_wp2
      go_ret
      exact ⟨by first|rfl|(simp;done)|(simp [*];done),drn⟩
     ·rw [if_neg c13] at H
      have c13b0 : (a0 == 58) = false:=beq_eq_false_iff_ne.mpr c13
      have c13b1 : (a0 != 58) = true:=bne_iff_ne.mpr c13
      obtain rfl:=Option.some.inj H
      go_enter Tryz.func47,Tryz.ntmps47
      go_wp2
      go_ret
      exact ⟨by first|rfl|(simp;done)|(simp [*];done),drn⟩
  ·rw [if_neg c10] at H
   have c10b0 : decide (48 ≤ a0) = false:=decide_eq_false c10
   clear c10
   by_cases c14 : a0 = 64
   ·rw [if_pos c14] at H
    have c14b0 : (a0 == 64) = true:=beq_iff_eq.mpr c14
    have c14b1 : (a0 != 64) = false:=bne_eq_false_iff_eq.mpr c14
    clear c14
    obtain rfl:=Option.some.inj H
    go_enter Tryz.func47,Tryz.ntmps47
    go_wp2
    go_ret
    exact ⟨by first|rfl|(simp;done)|(simp [*];done),drn⟩
   ·rw [if_neg c14] at H
    have c14b0 : (a0 == 64) = false:=beq_eq_false_iff_ne.mpr c14
    have c14b1 : (a0 != 64) = true:=bne_iff_ne.mpr c14
    by_cases c15 : a0 = 58
    ·rw [if_pos c15] at H
     have c15b0 : (a0 == 58) = true:=beq_iff_eq.mpr c15
     have c15b1 : (a0 != 58) = false:=bne_eq_false_iff_eq.mpr c15
     clear c15
     obtain rfl:=Option.some.inj H
     go_enter Tryz.func47,Tryz.ntmps47
     go_wp2
     go_ret
     exact ⟨by first|rfl|(simp;done)|(simp [*];done),drn⟩
    ·rw [if_neg c15] at H
     have c15b0 : (a0 == 58) = false:=beq_eq_false_iff_ne.mpr c15
     have c15b1 : (a0 != 58) = true:=bne_iff_ne.mpr c15
     obtain rfl:=Option.some.inj H
     go_enter Tryz.func47,Tryz.ntmps47
     go_wp2
     go_ret
     exact ⟨by first|rfl|(simp;done)|(simp [*];done),drn⟩

/-! ### spec_TextOk: function 30 -/
def spec_TextOk.l0 : Nat → ByteArray → Int → Option (Bool)
 | 0, _, _ => none
 | k + 1, x0, x3 => if x3 < (x0.size : Int) then (if 0 ≤ x3 then ((spec_l2Byte.f (bt x0 x3)).bind fun t452 => (if t452 = true then (spec_TextOk.l0 k x0 (wrap64 (x3 + 1))) else (some false))) else (none)) else (some (decide ((x0.size : Int) ≤ 40)))
def spec_TextOk.f (k : Nat) (a0 : ByteArray) : Option (Bool) := spec_TextOk.l0 k a0 0
theorem spec_TextOk.mono_l : ∀ k, (∀ y0 y1, LeO (spec_TextOk.l0 k y0 y1) (spec_TextOk.l0 (k + 1) y0 y1))
 | 0 => fun _ _ r h => by simp [spec_TextOk.l0] at h
 | k + 1 => by
  have ih0:=spec_TextOk.mono_l k
  ·intro y0 y1
   unfold spec_TextOk.l0
   exact leo1 ih0
theorem spec_TextOk.mono : ∀ a0 k, LeO (spec_TextOk.f k a0) (spec_TextOk.f (k + 1) a0) := by
 intro a0 k
 have ih0:=spec_TextOk.mono_l k
 unfold spec_TextOk.f
 exact leo1 ih0
theorem spec_TextOk.calls (k : Nat) (a0 : ByteArray) (r : Bool) (w : World) (h : spec_TextOk.f k a0 = some r) :
  Calls Tryz.prog 30 #[.string a0] w fun e w'=>e = .returned (.bool r) ∧ Drawn0 w w':=by
 have H : (spec_TextOk.l0 k a0 0) = some r:=h
 clear h
 have H':=m_ H
 clear H
 go_enter Tryz.func30,Tryz.ntmps30
 go_wp2
 go_loopg [3] k (fun kq v3 w'=>∃ (x3_1 : Int),v3 = .int .i64 x3_1 ∧ Aside0 (spec_TextOk.l0 kq a0 x3_1 = some r) ∧ Aside0 (kq ≤ k) ∧ Drawn0 w w')
 case atStart=>exact ⟨(0),(by first|rfl|(simp;done)|(simp [*];done)),H',⟨Nat.le_refl _⟩,drn⟩
 case round =>
  clear H'
  obtain ⟨x3_1,rfl,HA,HK1,⟨m1,rfl⟩⟩:=hrel
  cases gk with
  | zero => exact absurd HA.out (by simp [spec_TextOk.l0])
  | succ k1 =>
   have H:=HA.out
   clear HA
   simp only [spec_TextOk.l0] at H
   by_cases c2 : x3_1 < (a0.size : Int)
   ·rw [if_pos c2] at H
    have c2b0 : decide (x3_1 < (a0.size : Int)) = true:=decide_eq_true c2
    clear c2
    by_cases c3 : 0 ≤ x3_1
    rotate_left
    ·rw [if_neg c3] at H
     exact absurd H (by simp)
    rw [if_pos c3] at H
    have c3b0 : decide (0 ≤ x3_1) = true:=decide_eq_true c3
    clear c3
    replace H:=Option.bind_eq_some_iff.mp H
    obtain ⟨t452,A50,H⟩:=H
    have A5:=m_ A50
    clear A50
    by_cases c6 : t452 = true
    ·subst c6
     replace H:=ifp H rfl
     have H':=m_ H
     clear H
     have p4 : 0 ≤ (x3_1 : Int):=of_decide_eq_true asm
     have q4 : x3_1 < (a0.size : Int):=of_decide_eq_true asm
     have hx4:=bt_at a0 x3_1
     replace p4:=eq_true p4
     replace q4:=eq_true q4
     go_wp2_with (first|((with_reducible refine gate_callee (f:=47) rfl ?_);refine goesL_ (some 13) rfl rfl Tryz.func47 (by kernel_rfl) rfl #[.int .u8 (bt a0 x3_1)] rfl lens ?_;(with_reducible refine (spec_l2Byte.calls (bt a0 x3_1) true _ A5.out).mono ?_);rintro e w' ⟨rfl,⟨nd,rfl⟩⟩;refine ⟨_,rfl,?_⟩))
     go_roundg k1
     case measure=>have:=HK1.out;omega
     case rel=>exact ⟨(wrap64 (x3_1 + 1)),(by first|rfl|(simp;done)|(simp [*];done)),H',⟨by have:=HK1.out;omega⟩,drn⟩
    ·replace c6:=Bool.eq_false_iff.mpr c6
     subst c6
     replace H:=ifn H
     obtain rfl:=Option.some.inj H
     have p4 : 0 ≤ (x3_1 : Int):=of_decide_eq_true asm
     have q4 : x3_1 < (a0.size : Int):=of_decide_eq_true asm
     have hx4:=bt_at a0 x3_1
     replace p4:=eq_true p4
     replace q4:=eq_true q4
     go_wp2_with (first|((with_reducible refine gate_callee (f:=47) rfl ?_);refine goesL_ (some 13) rfl rfl Tryz.func47 (by kernel_rfl) rfl #[.int .u8 (bt a0 x3_1)] rfl lens ?_;(with_reducible refine (spec_l2Byte.calls (bt a0 x3_1) false _ A5.out).mono ?_);rintro e w' ⟨rfl,⟨nd,rfl⟩⟩;refine ⟨_,rfl,?_⟩))
     go_ret
     exact ⟨by first|rfl|(simp;done)|(simp [*];done),drn⟩
   ·rw [if_neg c2] at H
    have c2b0 : decide (x3_1 < (a0.size : Int)) = false:=decide_eq_false c2
    clear c2
    obtain rfl:=Option.some.inj H
    go_wp2
    go_ret
    exact ⟨by first|rfl|(simp;done)|(simp [*];done),drn⟩

/-! ### spec_TextPieces: function 29 -/
def spec_TextPieces.f (k : Nat) (a0 : ByteArray) : Option ((List (S51))) := (spec_TextOk.f k a0).bind fun t453 => (if t453 = true then ((spec_l2Pieces.f k a0).bind fun t454 => (some t454)) else (some (([] : List (S51)))))
theorem spec_TextPieces.mono : ∀ a0 k, LeO (spec_TextPieces.f k a0) (spec_TextPieces.f (k + 1) a0) := by
 intro a0 k
 unfold spec_TextPieces.f
 exact leo2 spec_TextOk.mono spec_l2Pieces.mono
theorem spec_TextPieces.calls (k : Nat) (a0 : ByteArray) (r : List (S51)) (w : World) (h : spec_TextPieces.f k a0 = some r) :
  Calls Tryz.prog 29 #[.string a0] w fun e w'=>∃ v0_ : Value,e = .returned (v0_) ∧ Kd.R k51 51 w' w.heap.size (fun _=>True) v0_ r ∧ Below w.heap.size w w':=by
 have HB:=m_ (Below.refl w.heap.size w)
 have H : ((spec_TextOk.f k a0).bind fun t453=>(if t453 = true then ((spec_l2Pieces.f k a0).bind fun t454=>(some t454)) else (some (([] : List (S51)))))) = some r:=h
 clear h
 replace H:=Option.bind_eq_some_iff.mp H
 obtain ⟨t453,A20,H⟩:=H
 have A2:=m_ A20
 clear A20
 by_cases c3 : t453 = true
 ·subst c3
  replace H:=ifp H rfl
  replace H:=Option.bind_eq_some_iff.mp H
  obtain ⟨t454,A40,H⟩:=H
  have A4:=m_ A40
  clear A40
  obtain rfl:=Option.some.inj H
  go_enter Tryz.func29,Tryz.ntmps29
  go_wp2_with (first|((with_reducible refine gate_callee (f:=30) rfl ?_);refine goesL_ (some 4) rfl rfl Tryz.func30 (by kernel_rfl) rfl #[.string a0] rfl lens ?_;(with_reducible refine (spec_TextOk.calls k a0 true _ A2.out).mono ?_);rintro e w' ⟨rfl,⟨nd,rfl⟩⟩;refine ⟨_,rfl,?_⟩)|((with_reducible refine gate_callee (f:=46) rfl ?_);refine goesL_ (some 8) rfl rfl Tryz.func46 (by kernel_rfl) rfl #[.string a0] rfl lens ?_;(with_reducible refine (spec_l2Pieces.calls k a0 t454 _ A4.out).mono ?_);rintro e w5 ⟨v455,rfl,ho0,hb⟩;refine ⟨_,rfl,?_⟩;have n0_:=m_ (Kd.R_lower ho0 (l6_ (puL HB.out)));have n1_:=m_ (l5_ (puL HB.out) hb);revert n0_ n1_;clear HB;intro HO456 HB;(try clear hb);(try clear hb2);(try clear hk);(try clear hi);(try clear ho0)))
  go_ret
  exact ⟨_,eqs,puR HO456.out,puL HB.out⟩
 ·replace c3:=Bool.eq_false_iff.mpr c3
  subst c3
  replace H:=ifn H
  obtain ⟨y457,hy457⟩ : ∃ y_ : List (S51),y_ = (([] : List (S51))):=⟨_,rfl⟩
  replace H : (some y457) = some r:=by first|(rw [hy457];with_reducible exact H)|(have H2_:=(Option.bind_some _ _).symm.trans H;rw [hy457];with_reducible exact H2_)|(have H2_:=(Option.bind_some _ _).symm.trans H;with_reducible exact H2_)|with_reducible exact H|(rw [hy457];exact H)|exact H
  have Ny457:=m_ hy457
  clear hy457
  obtain rfl:=Option.some.inj H
  go_enter Tryz.func29,Tryz.ntmps29
  go_wp2_with (first|((with_reducible refine gate_callee (f:=30) rfl ?_);refine goesL_ (some 4) rfl rfl Tryz.func30 (by kernel_rfl) rfl #[.string a0] rfl lens ?_;(with_reducible refine (spec_TextOk.calls k a0 false _ A2.out).mono ?_);rintro e w' ⟨rfl,⟨nd,rfl⟩⟩;refine ⟨_,rfl,?_⟩)|((with_reducible refine gate_dst (N:=6) rfl ?_);refine Kd.R_lit k51 _ 51 ?hg (N:=6) ?hd (xs:=([] : List (S51))) (inner:=[]) (ok:=fun _=>True) (okp:=fun _=>True) ?hr ?hp (fun _ hk=>hk) trivial (Below.refl _ _) (Nat.le_refl _) (by simp) ?_;(case hd=>rfl);(case hg=>rfl);(case hr=>first|(go_simp;done)|(go_simp;rfl));(case hp=>exact (Reps.none _ _));intro v458 w6 ho7 hb hg_ hnew_;clear hg_ hnew_;(first|rw [← Ny457.out] at ho7|(simp only [Int.reduceToNat] at ho7;rw [← Ny457.out] at ho7));have n0_:=m_ (Kd.R_lower ho7 (l6_ (puL HB.out)));have n1_:=m_ (l5_ (puL HB.out) hb);revert n0_ n1_;clear HB;intro HO459 HB;clear hb ho7))
  go_ret
  exact ⟨_,eqs,puR HO459.out,puL HB.out⟩

end Go.Proofs.YtkcjmmhleepjeaaGreatDoor.A
