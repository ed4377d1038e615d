-- Printed by myprint.py (wip/tools) out of the translation. Not trusted: Lean checks it.
import Derived.Test.YtkcjmmhleepjeaaDoorAx0
import Derived.Test.YtkcjmmhleepjeaaDoorAx2
import Derived.Test.YtkcjmmhleepjeaaDoorAx3
import Derived.Test.YtkcjmmhleepjeaaDoorAx9
import Derived.Test.YtkcjmmhleepjeaaDoorAx10
namespace Go.Proofs.YtkcjmmhleepjeaaDoor.A
open Go.RowKit Go.Proofs.YtkcjmmhleepjeaaDoorW.PrintWords Go.Proofs.YtkcjmmhleepjeaaDoorW.PrintLast Go.Proofs.YtkcjmmhleepjeaaDoorW.PrintMore
attribute [local go_sem] max2_int min2_int max_two min_two max_three min_three max_four min_four
set_option linter.unusedVariables false
set_option maxHeartbeats 8000000
set_option maxRecDepth 100000
set_option linter.unusedSimpArgs false

/-! ### spec_l71Text: function 54 -/
def spec_l71Text.l0 : Nat → Int → ByteArray → Int → List Int → Int → Option (ByteArray × Int)
 | 0, _, _, _, _, _ => none
 | k + 1, x1, x5, x6, x1000, x1001 => if x6 > 0 then ((spec_l6Rd_of.f k x1000 x1001 (([(⟨#[97]⟩ : ByteArray), (⟨#[98, 99]⟩ : ByteArray), (⟨#[64]⟩ : ByteArray), (⟨#[64, 49]⟩ : ByteArray), (⟨#[59]⟩ : ByteArray), (⟨#[58, 53]⟩ : ByteArray), (⟨#[120, 49]⟩ : ByteArray), (⟨#[64, 64]⟩ : ByteArray), (⟨#[64, 49, 58]⟩ : ByteArray), (⟨#[55]⟩ : ByteArray)] : List ByteArray))).bind fun bt343 => ((spec_l6Rd_pick.f k x1000 bt343.2 5).bind fun bt345 => (if bt345.1 < 3 then ((spec_l71End.f k x1000 bt345.2).bind fun bt347 => ((spec_EndText.f k bt347.1 bt347.2.1).bind fun t350 => (if 1 + t350.size ≤ 9223372036854775807 then (if 1 + t350.size + 1 ≤ 9223372036854775807 then (if (wrap64 ((x5.size : Int) + (1 + (t350.size : Int) + 1))) ≤ x1 then (if x5.size + (1 + t350.size + 1) ≤ 9223372036854775807 then (spec_l71Text.l0 k x1 (x5 ++ (((⟨#[64]⟩ : ByteArray) ++ t350) ++ (⟨#[59]⟩ : ByteArray))) (wrap64 (x6 - 1)) x1000 bt347.2.2) else (none)) else (spec_l71Text.l0 k x1 x5 (wrap64 (x6 - 1)) x1000 bt347.2.2)) else (none)) else (none)))) else (if (wrap64 ((x5.size : Int) + (bt343.1.size : Int))) ≤ x1 then (if x5.size + bt343.1.size ≤ 9223372036854775807 then (spec_l71Text.l0 k x1 (x5 ++ bt343.1) (wrap64 (x6 - 1)) x1000 bt345.2) else (none)) else (spec_l71Text.l0 k x1 x5 (wrap64 (x6 - 1)) x1000 bt345.2))))) else (some (x5, x1001))
def spec_l71Text.f (k : Nat) (s0_0 : List Int) (s0_1 : Int) (a1 : Int) : Option (ByteArray × Int) := (spec_l6Rd_pick.f k s0_0 s0_1 7).bind fun bt338 => (spec_l71Text.l0 k a1 (⟨#[]⟩ : ByteArray) bt338.1 s0_0 bt338.2)
theorem spec_l71Text.mono_l : ∀ k, (∀ y0 y1 y2 y3 y4, LeO (spec_l71Text.l0 k y0 y1 y2 y3 y4) (spec_l71Text.l0 (k + 1) y0 y1 y2 y3 y4))
 | 0 => fun _ _ _ _ _ r h => by simp [spec_l71Text.l0] at h
 | k + 1 => by
  have ih0:=spec_l71Text.mono_l k
  ·intro y0 y1 y2 y3 y4
   unfold spec_l71Text.l0
   repeat' first
   | (with_reducible exact ih0 _ _ _ _ _)
   | (with_reducible exact spec_EndText.mono _ _ _)
   | (with_reducible exact spec_l6Rd_of.mono _ _ _ _)
   | (with_reducible exact spec_l6Rd_pick.mono _ _ _ _)
   | (with_reducible exact spec_l71End.mono _ _ _)
   | (with_reducible exact LeO.refl _)
   | (with_reducible exact LeO.none _)
   | (with_reducible refine LeO.ite ?_ ?_)
   | (with_reducible refine LeO.bind ?_ (fun _ => ?_))
   | exact ih0 _ _ _ _ _
   | exact spec_EndText.mono _ _ _
   | exact spec_l6Rd_of.mono _ _ _ _
   | exact spec_l6Rd_pick.mono _ _ _ _
   | exact spec_l71End.mono _ _ _
   | exact LeO.none _
   | refine LeO.ite ?_ ?_
   | refine LeO.bind ?_ (fun _ => ?_)
theorem spec_l71Text.mono : ∀ a0 a1 a2 k, LeO (spec_l71Text.f k a0 a1 a2) (spec_l71Text.f (k + 1) a0 a1 a2) := by
 intro a0 a1 a2 k
 have ih0:=spec_l71Text.mono_l k
 unfold spec_l71Text.f
 repeat' first
   | (with_reducible exact ih0 _ _ _ _ _)
   | (with_reducible exact spec_EndText.mono _ _ _)
   | (with_reducible exact spec_l6Rd_of.mono _ _ _ _)
   | (with_reducible exact spec_l6Rd_pick.mono _ _ _ _)
   | (with_reducible exact spec_l71End.mono _ _ _)
   | (with_reducible exact LeO.refl _)
   | (with_reducible exact LeO.none _)
   | (with_reducible refine LeO.ite ?_ ?_)
   | (with_reducible refine LeO.bind ?_ (fun _ => ?_))
   | exact ih0 _ _ _ _ _
   | exact spec_EndText.mono _ _ _
   | exact spec_l6Rd_of.mono _ _ _ _
   | exact spec_l6Rd_pick.mono _ _ _ _
   | exact spec_l71End.mono _ _ _
   | exact LeO.none _
   | refine LeO.ite ?_ ?_
   | refine LeO.bind ?_ (fun _ => ?_)
theorem spec_l71Text.calls (k : Nat) (g : Nat) (s0_0 : List Int) (s0_1 : Int) (a1 : Int) (r1 : ByteArray) (r2 : Int) (w0 w : World) (hI : IsS85 w0 w g s0_0 s0_1) (hB : Below w0.heap.size w0 w) (h : spec_l71Text.f k s0_0 s0_1 a1 = some (r1, r2)) :
  Calls Tryd.prog 54 #[.pointer (some ⟨g,0,none⟩),.int .i64 a1] w fun e w'=>e = .returned (.string r1) ∧ IsS85 w0 w' g s0_0 r2 ∧ Below w0.heap.size w0 w' ∧ KeepBut w w' g none:=by
 have HI0:=m_ hI
 have HK:=m_ (KeepBut.refl w g none)
 have HL:=m_ hB.size
 clear hI
 have HW0:=m_ hB.size
 have HB:=m_ hB
 clear hB
 have H : ((spec_l6Rd_pick.f k s0_0 s0_1 7).bind fun bt338=>(spec_l71Text.l0 k a1 (⟨#[]⟩ : ByteArray) bt338.1 s0_0 bt338.2)) = some (r1,r2):=h
 clear h
 replace H:=Option.bind_eq_some_iff.mp H
 obtain ⟨⟨t338,t339⟩,A30,H⟩:=H
 replace H : (spec_l71Text.l0 k a1 (⟨#[]⟩ : ByteArray) t338 s0_0 t339) = some (r1,r2):=H
 have A3:=m_ A30
 clear A30
 have H':=m_ H
 clear H
 go_enter Tryd.func54,Tryd.ntmps54
 go_wp2_with (first|((with_reducible refine gate_callee (f:=53) rfl ?_);refine goesL_ (some 9) rfl rfl Tryd.func53 (by kernel_rfl) rfl #[.pointer (some ⟨g,0,none⟩),.int .i64 7] rfl lens ?_;(with_reducible refine (spec_l6Rd_pick.calls k g s0_0 s0_1 7 t338 t339 w0 _ ?side1 ?side2 A3.out).mono ?_);(case side1=>repeat (first|(with_reducible first|exact HI0.out|apply IsS85.alloc|apply IsS85.drewN|apply IsS85.drew|apply IsS85.set_1)|exact HI0.out));(case side2=>repeat (first|(with_reducible first|exact HB.out|apply l1_|apply l2_|apply l3_|refine l4_ ?_ (IsS85.ge HI0.out))|exact HB.out));rintro e w4 ⟨rfl,hi,hb,hk⟩;refine ⟨_,rfl,?_⟩;have n0_:=m_ (KeepBut.trans (puK HK.out) hk (.inl rfl));have n1_:=m_ (hb);have n2_:=m_ (hi);revert n0_ n1_ n2_;clear HK HB HI0;intro HK HB HI0;(try clear hb);(try clear hb2);(try clear hk);(try clear hi)))
 go_loopg [5,6] k (fun kq v5 v6 w'=>∃ (x5_1 : ByteArray) (x6_1 : Int) (x1001_1 : Int),v5 = .string x5_1 ∧ v6 = .int .i64 x6_1 ∧ Aside0 (spec_l71Text.l0 kq a1 x5_1 x6_1 s0_0 x1001_1 = some (r1,r2)) ∧ Aside0 (kq ≤ k) ∧ Aside0 (IsS85 w0 w' g s0_0 x1001_1) ∧ Aside0 (KeepBut w w' g none) ∧ Aside0 (Below w0.heap.size w0 w'))
 case atStart=>exact ⟨((⟨#[]⟩ : ByteArray)),(t338),(t339),(by first|rfl|(simp;done)|(simp [*];done)),(by first|rfl|(simp;done)|(simp [*];done)),H',⟨Nat.le_refl _⟩,⟨by repeat (first|(with_reducible first|exact HI0.out|apply IsS85.alloc|apply IsS85.drewN|apply IsS85.drew|apply IsS85.set_1)|exact HI0.out)⟩,⟨puK HK.out⟩,⟨puM HB.out (IsS85.ge HI0.out)⟩⟩
 case round =>
  clear H'
  try clear p2
  obtain ⟨x5_1,x6_1,x1001_1,rfl,rfl,HA,HK1,HI0,HK,HB⟩:=hrel
  cases gk with
  | zero => exact absurd HA.out (by simp [spec_l71Text.l0])
  | succ k1 =>
   have H:=HA.out
   clear HA
   simp only [spec_l71Text.l0] at H
   by_cases c5 : x6_1 > 0
   ·rw [if_pos c5] at H
    have c5b0 : decide (0 < x6_1) = true:=decide_eq_true c5
    clear c5
    obtain ⟨y340,hy340⟩ : ∃ y_ : List ByteArray,y_ = (([(⟨#[97]⟩ : ByteArray),(⟨#[98,99]⟩ : ByteArray),(⟨#[64]⟩ : ByteArray),(⟨#[64,49]⟩ : ByteArray),(⟨#[59]⟩ : ByteArray),(⟨#[58,53]⟩ : ByteArray),(⟨#[120,49]⟩ : ByteArray),(⟨#[64,64]⟩ : ByteArray),(⟨#[64,49,58]⟩ : ByteArray),(⟨#[55]⟩ : ByteArray)] : List ByteArray)):=⟨_,rfl⟩
    replace H : ((spec_l6Rd_of.f k1 s0_0 x1001_1 y340).bind fun bt343=>((spec_l6Rd_pick.f k1 s0_0 bt343.2 5).bind fun bt345=>(if bt345.1 < 3 then ((spec_l71End.f k1 s0_0 bt345.2).bind fun bt347=>((spec_EndText.f k1 bt347.1 bt347.2.1).bind fun t350=>(if 1 + t350.size ≤ 9223372036854775807 then (if 1 + t350.size + 1 ≤ 9223372036854775807 then (if (wrap64 ((x5_1.size : Int) + (1 + (t350.size : Int) + 1))) ≤ a1 then (if x5_1.size + (1 + t350.size + 1) ≤ 9223372036854775807 then (spec_l71Text.l0 k1 a1 (x5_1 ++ (((⟨#[64]⟩ : ByteArray) ++ t350) ++ (⟨#[59]⟩ : ByteArray))) (wrap64 (x6_1 - 1)) s0_0 bt347.2.2) else (none)) else (spec_l71Text.l0 k1 a1 x5_1 (wrap64 (x6_1 - 1)) s0_0 bt347.2.2)) else (none)) else (none)))) else (if (wrap64 ((x5_1.size : Int) + (bt343.1.size : Int))) ≤ a1 then (if x5_1.size + bt343.1.size ≤ 9223372036854775807 then (spec_l71Text.l0 k1 a1 (x5_1 ++ bt343.1) (wrap64 (x6_1 - 1)) s0_0 bt345.2) else (none)) else (spec_l71Text.l0 k1 a1 x5_1 (wrap64 (x6_1 - 1)) s0_0 bt345.2))))) = some (r1,r2):=by first|(rw [hy340];with_reducible exact H)|(have H2_:=(Option.bind_some _ _).symm.trans H;rw [hy340];with_reducible exact H2_)|(have H2_:=(Option.bind_some _ _).symm.trans H;with_reducible exact H2_)|with_reducible exact H|(rw [hy340];exact H)|exact H
    have Ny340:=m_ hy340
    clear hy340
    replace H:=Option.bind_eq_some_iff.mp H
    obtain ⟨⟨t343,t344⟩,A60,H⟩:=H
    replace H : ((spec_l6Rd_pick.f k1 s0_0 t344 5).bind fun bt345=>(if bt345.1 < 3 then ((spec_l71End.f k1 s0_0 bt345.2).bind fun bt347=>((spec_EndText.f k1 bt347.1 bt347.2.1).bind fun t350=>(if 1 + t350.size ≤ 9223372036854775807 then (if 1 + t350.size + 1 ≤ 9223372036854775807 then (if (wrap64 ((x5_1.size : Int) + (1 + (t350.size : Int) + 1))) ≤ a1 then (if x5_1.size + (1 + t350.size + 1) ≤ 9223372036854775807 then (spec_l71Text.l0 k1 a1 (x5_1 ++ (((⟨#[64]⟩ : ByteArray) ++ t350) ++ (⟨#[59]⟩ : ByteArray))) (wrap64 (x6_1 - 1)) s0_0 bt347.2.2) else (none)) else (spec_l71Text.l0 k1 a1 x5_1 (wrap64 (x6_1 - 1)) s0_0 bt347.2.2)) else (none)) else (none)))) else (if (wrap64 ((x5_1.size : Int) + (t343.size : Int))) ≤ a1 then (if x5_1.size + t343.size ≤ 9223372036854775807 then (spec_l71Text.l0 k1 a1 (x5_1 ++ t343) (wrap64 (x6_1 - 1)) s0_0 bt345.2) else (none)) else (spec_l71Text.l0 k1 a1 x5_1 (wrap64 (x6_1 - 1)) s0_0 bt345.2)))) = some (r1,r2):=H
    have A6:=m_ A60
    clear A60
    replace H:=Option.bind_eq_some_iff.mp H
    obtain ⟨⟨t345,t346⟩,A70,H⟩:=H
    replace H : (if t345 < 3 then ((spec_l71End.f k1 s0_0 t346).bind fun bt347=>((spec_EndText.f k1 bt347.1 bt347.2.1).bind fun t350=>(if 1 + t350.size ≤ 9223372036854775807 then (if 1 + t350.size + 1 ≤ 9223372036854775807 then (if (wrap64 ((x5_1.size : Int) + (1 + (t350.size : Int) + 1))) ≤ a1 then (if x5_1.size + (1 + t350.size + 1) ≤ 9223372036854775807 then (spec_l71Text.l0 k1 a1 (x5_1 ++ (((⟨#[64]⟩ : ByteArray) ++ t350) ++ (⟨#[59]⟩ : ByteArray))) (wrap64 (x6_1 - 1)) s0_0 bt347.2.2) else (none)) else (spec_l71Text.l0 k1 a1 x5_1 (wrap64 (x6_1 - 1)) s0_0 bt347.2.2)) else (none)) else (none)))) else (if (wrap64 ((x5_1.size : Int) + (t343.size : Int))) ≤ a1 then (if x5_1.size + t343.size ≤ 9223372036854775807 then (spec_l71Text.l0 k1 a1 (x5_1 ++ t343) (wrap64 (x6_1 - 1)) s0_0 t346) else (none)) else (spec_l71Text.l0 k1 a1 x5_1 (wrap64 (x6_1 - 1)) s0_0 t346))) = some (r1,r2):=H
    have A7:=m_ A70
    clear A70
    by_cases c8 : t345 < 3
    ·rw [if_pos c8] at H
     have c8b0 : decide (t345 < 3) = true:=decide_eq_true c8
     clear c8
     replace H:=Option.bind_eq_some_iff.mp H
     obtain ⟨⟨t347,t348,t349⟩,A90,H⟩:=H
     replace H : ((spec_EndText.f k1 t347 t348).bind fun t350=>(if 1 + t350.size ≤ 9223372036854775807 then (if 1 + t350.size + 1 ≤ 9223372036854775807 then (if (wrap64 ((x5_1.size : Int) + (1 + (t350.size : Int) + 1))) ≤ a1 then (if x5_1.size + (1 + t350.size + 1) ≤ 9223372036854775807 then (spec_l71Text.l0 k1 a1 (x5_1 ++ (((⟨#[64]⟩ : ByteArray) ++ t350) ++ (⟨#[59]⟩ : ByteArray))) (wrap64 (x6_1 - 1)) s0_0 t349) else (none)) else (spec_l71Text.l0 k1 a1 x5_1 (wrap64 (x6_1 - 1)) s0_0 t349)) else (none)) else (none))) = some (r1,r2):=H
     have A9:=m_ A90
     clear A90
     replace H:=Option.bind_eq_some_iff.mp H
     obtain ⟨t350,A100,H⟩:=H
     replace H : (if 1 + t350.size ≤ 9223372036854775807 then (if 1 + t350.size + 1 ≤ 9223372036854775807 then (if (wrap64 ((x5_1.size : Int) + (1 + (t350.size : Int) + 1))) ≤ a1 then (if x5_1.size + (1 + t350.size + 1) ≤ 9223372036854775807 then (spec_l71Text.l0 k1 a1 (x5_1 ++ (((⟨#[64]⟩ : ByteArray) ++ t350) ++ (⟨#[59]⟩ : ByteArray))) (wrap64 (x6_1 - 1)) s0_0 t349) else (none)) else (spec_l71Text.l0 k1 a1 x5_1 (wrap64 (x6_1 - 1)) s0_0 t349)) else (none)) else (none)) = some (r1,r2):=H
     have A10:=m_ A100
     clear A100
     by_cases c11 : 1 + t350.size ≤ 9223372036854775807
     rotate_left
     ·rw [if_neg c11] at H
      exact absurd H (by simp)
     rw [if_pos c11] at H
     have c11b0:=eq_true c11
     have c11b1:=decide_eq_true c11
     try have c11b2 : (9223372036854775807 < 1 + t350.size) = False:=eq_false (Nat.not_lt.2 c11)
     by_cases c12 : 1 + t350.size + 1 ≤ 9223372036854775807
     rotate_left
     ·rw [if_neg c12] at H
      exact absurd H (by simp)
     rw [if_pos c12] at H
     have c12b0:=eq_true c12
     have c12b1:=decide_eq_true c12
     try have c12b2 : (9223372036854775807 < 1 + t350.size + 1) = False:=eq_false (Nat.not_lt.2 c12)
     by_cases c13 : (wrap64 ((x5_1.size : Int) + (1 + (t350.size : Int) + 1))) ≤ a1
     ·rw [if_pos c13] at H
      have c13b0 : decide ((wrap64 ((x5_1.size : Int) + (1 + (t350.size : Int) + 1))) ≤ a1) = true:=decide_eq_true c13
      clear c13
      by_cases c14 : x5_1.size + (1 + t350.size + 1) ≤ 9223372036854775807
      ·rw [if_pos c14] at H
       have c14b0:=eq_true c14
       have c14b1:=decide_eq_true c14
       try have c14b2 : (9223372036854775807 < x5_1.size + (1 + t350.size + 1)) = False:=eq_false (Nat.not_lt.2 c14)
       clear c14
       have H':=m_ H
       clear H
       go_wp2_with (first|((with_reducible refine gate_dst (N:=15) rfl ?_);refine Kd.R_lit Kd.string _ 9 ?hg (N:=15) ?hd (xs:=([(⟨#[97]⟩ : ByteArray),(⟨#[98,99]⟩ : ByteArray),(⟨#[64]⟩ : ByteArray),(⟨#[64,49]⟩ : ByteArray),(⟨#[59]⟩ : ByteArray),(⟨#[58,53]⟩ : ByteArray),(⟨#[120,49]⟩ : ByteArray),(⟨#[64,64]⟩ : ByteArray),(⟨#[64,49,58]⟩ : ByteArray),(⟨#[55]⟩ : ByteArray)] : List ByteArray)) (inner:=[.string (⟨#[97]⟩ : ByteArray),.string (⟨#[98,99]⟩ : ByteArray),.string (⟨#[64]⟩ : ByteArray),.string (⟨#[64,49]⟩ : ByteArray),.string (⟨#[59]⟩ : ByteArray),.string (⟨#[58,53]⟩ : ByteArray),.string (⟨#[120,49]⟩ : ByteArray),.string (⟨#[64,64]⟩ : ByteArray),.string (⟨#[64,49,58]⟩ : ByteArray),.string (⟨#[55]⟩ : ByteArray)]) (ok:=fun _=>True) (okp:=fun _=>True) ?hr ?hp (fun _ hk=>hk) trivial (Below.refl _ _) (Nat.le_refl _) (by simp) ?_;(case hd=>rfl);(case hg=>rfl);(case hr=>first|(go_simp;done)|(go_simp;rfl));(case hp=>exact (Reps.one (show Kd.M Kd.string _ _ _ (⟨#[97]⟩ : ByteArray) [.string (⟨#[97]⟩ : ByteArray)] from rfl) (Reps.one (show Kd.M Kd.string _ _ _ (⟨#[98,99]⟩ : ByteArray) [.string (⟨#[98,99]⟩ : ByteArray)] from rfl) (Reps.one (show Kd.M Kd.string _ _ _ (⟨#[64]⟩ : ByteArray) [.string (⟨#[64]⟩ : ByteArray)] from rfl) (Reps.one (show Kd.M Kd.string _ _ _ (⟨#[64,49]⟩ : ByteArray) [.string (⟨#[64,49]⟩ : ByteArray)] from rfl) (Reps.one (show Kd.M Kd.string _ _ _ (⟨#[59]⟩ : ByteArray) [.string (⟨#[59]⟩ : ByteArray)] from rfl) (Reps.one (show Kd.M Kd.string _ _ _ (⟨#[58,53]⟩ : ByteArray) [.string (⟨#[58,53]⟩ : ByteArray)] from rfl) (Reps.one (show Kd.M Kd.string _ _ _ (⟨#[120,49]⟩ : ByteArray) [.string (⟨#[120,49]⟩ : ByteArray)] from rfl) (Reps.one (show Kd.M Kd.string _ _ _ (⟨#[64,64]⟩ : ByteArray) [.string (⟨#[64,64]⟩ : ByteArray)] from rfl) (Reps.one (show Kd.M Kd.string _ _ _ (⟨#[64,49,58]⟩ : ByteArray) [.string (⟨#[64,49,58]⟩ : ByteArray)] from rfl) (Reps.one (show Kd.M Kd.string _ _ _ (⟨#[55]⟩ : ByteArray) [.string (⟨#[55]⟩ : ByteArray)] from rfl) (Reps.none _ _))))))))))));intro v341 w15 ho16 hb hg_ hnew_;clear hg_ hnew_;(first|rw [← Ny340.out] at ho16|(simp only [Int.reduceToNat] at ho16;rw [← Ny340.out] at ho16));have n0_:=m_ (Kd.R_lower ho16 (keep_size (w:=w) (g:=g) (row:=none) (puK HK.out)));have n1_:=m_ (IsS85.below (by repeat (first|(with_reducible first|exact HI0.out|apply IsS85.alloc|apply IsS85.drewN|apply IsS85.drew|apply IsS85.set_1)|exact HI0.out)) hb);have n2_:=m_ (KeepBut.trans (puK HK.out) (KeepBut.of_below hb g none) (.inl rfl));have n3_:=m_ (l5_ (puM HB.out (IsS85.ge HI0.out)) hb);revert n0_ n1_ n2_ n3_;clear HI0 HK HB;intro HO342 HI0 HK HB;clear hb ho16;obtain ⟨Ao17,co17,eo17⟩:=Kd.R_slice HO342.out;subst eo17)|((with_reducible refine gate_callee (f:=56) rfl ?_);refine goesL_ (some 16) rfl rfl Tryd.func56 (by kernel_rfl) rfl #[.pointer (some ⟨g,0,none⟩),.slice Ao17 y340.length co17] rfl lens ?_;(with_reducible refine (spec_l6Rd_of.calls k1 g s0_0 x1001_1 _ _ y340 t343 t344 w0 _ ?side1 ?side2 ?side3 ?side4 ?side5 A6.out).mono ?_);(case side1=>repeat (first|(with_reducible first|exact HI0.out|apply IsS85.alloc|apply IsS85.drewN|apply IsS85.drew|apply IsS85.set_1)|exact HI0.out));(case side2=>repeat (first|(with_reducible first|exact HB.out|apply l1_|apply l2_|apply l3_|refine l4_ ?_ (IsS85.ge HI0.out))|exact HB.out));(case side3=>repeat (first|exact (Kd.R_reads' HO342.out).2.2|(with_reducible refine Kd.C_alloc ?_ _)|(with_reducible refine Kd.C_drewN ?_ _)|(with_reducible refine Kd.C_drew ?_)));(case side4=>exact (Kd.R_reads' HO342.out).2.1);(case side5=>exact far_slice (IsS85.own_ne HI0.out HO342.out (by decide)));rintro e w18 ⟨rfl,hi,hb,hk⟩;refine ⟨_,rfl,?_⟩;have n0_:=m_ (Kd.R_mono (Kd.R_keep (IsS85.apart (show IsS85 w0 _ g s0_0 x1001_1 from by repeat (first|(with_reducible first|exact HI0.out|apply IsS85.alloc|apply IsS85.drewN|apply IsS85.drew|apply IsS85.set_1)|exact HI0.out)) (puR HO342.out) (by decide)) hk (fun _ h=>h.2)) (fun _ h=>h.1));have n1_:=m_ (KeepBut.trans (puK HK.out) hk (.inl rfl));have n2_:=m_ (hb);have n3_:=m_ (hi);revert n0_ n1_ n2_ n3_;clear HO342 HK HB HI0;intro HO342 HK HB HI0;(try clear hb);(try clear hb2);(try clear hk);(try clear hi))|((with_reducible refine gate_callee (f:=53) rfl ?_);refine goesL_ (some 18) rfl rfl Tryd.func53 (by kernel_rfl) rfl #[.pointer (some ⟨g,0,none⟩),.int .i64 5] rfl lens ?_;(with_reducible refine (spec_l6Rd_pick.calls k1 g s0_0 t344 5 t345 t346 w0 _ ?side1 ?side2 A7.out).mono ?_);(case side1=>repeat (first|(with_reducible first|exact HI0.out|apply IsS85.alloc|apply IsS85.drewN|apply IsS85.drew|apply IsS85.set_1)|exact HI0.out));(case side2=>repeat (first|(with_reducible first|exact HB.out|apply l1_|apply l2_|apply l3_|refine l4_ ?_ (IsS85.ge HI0.out))|exact HB.out));rintro e w19 ⟨rfl,hi,hb,hk⟩;refine ⟨_,rfl,?_⟩;have n0_:=m_ (Kd.R_mono (Kd.R_keep (IsS85.apart (show IsS85 w0 _ g s0_0 t344 from by repeat (first|(with_reducible first|exact HI0.out|apply IsS85.alloc|apply IsS85.drewN|apply IsS85.drew|apply IsS85.set_1)|exact HI0.out)) (puR HO342.out) (by decide)) hk (fun _ h=>h.2)) (fun _ h=>h.1));have n1_:=m_ (KeepBut.trans (puK HK.out) hk (.inl rfl));have n2_:=m_ (hb);have n3_:=m_ (hi);revert n0_ n1_ n2_ n3_;clear HO342 HK HB HI0;intro HO342 HK HB HI0;(try clear hb);(try clear hb2);(try clear hk);(try clear hi))|((with_reducible refine gate_callee (f:=65) rfl ?_);refine goesL_ (some 21) rfl rfl Tryd.func65 (by kernel_rfl) rfl #[.pointer (some ⟨g,0,none⟩)] rfl lens ?_;(with_reducible refine (spec_l71End.calls k1 g s0_0 t346 t347 t348 t349 w0 _ ?side1 ?side2 A9.out).mono ?_);(case side1=>repeat (first|(with_reducible first|exact HI0.out|apply IsS85.alloc|apply IsS85.drewN|apply IsS85.drew|apply IsS85.set_1)|exact HI0.out));(case side2=>repeat (first|(with_reducible first|exact HB.out|apply l1_|apply l2_|apply l3_|refine l4_ ?_ (IsS85.ge HI0.out))|exact HB.out));rintro e w20 ⟨rfl,hi,hb,hk⟩;refine ⟨_,rfl,?_⟩;have n0_:=m_ (Kd.R_mono (Kd.R_keep (IsS85.apart (show IsS85 w0 _ g s0_0 t346 from by repeat (first|(with_reducible first|exact HI0.out|apply IsS85.alloc|apply IsS85.drewN|apply IsS85.drew|apply IsS85.set_1)|exact HI0.out)) (puR HO342.out) (by decide)) hk (fun _ h=>h.2)) (fun _ h=>h.1));have n1_:=m_ (KeepBut.trans (puK HK.out) hk (.inl rfl));have n2_:=m_ (hb);have n3_:=m_ (hi);revert n0_ n1_ n2_ n3_;clear HO342 HK HB HI0;intro HO342 HK HB HI0;(try clear hb);(try clear hb2);(try clear hk);(try clear hi))|((with_reducible refine gate_callee (f:=67) rfl ?_);refine goesL_ (some 22) rfl rfl Tryd.func67 (by kernel_rfl) rfl #[.agg #[.int .i64 t347,.int .i64 t348]] rfl lens ?_;(with_reducible refine (spec_EndText.calls k1 t347 t348 t350 _ A10.out).mono ?_);rintro e w21 ⟨rfl,hb⟩;refine ⟨_,rfl,?_⟩;have n0_:=m_ (Kd.R_below (puR HO342.out) hb);have n1_:=m_ (IsS85.below (by repeat (first|(with_reducible first|exact HI0.out|apply IsS85.alloc|apply IsS85.drewN|apply IsS85.drew|apply IsS85.set_1)|exact HI0.out)) hb);have n2_:=m_ (KeepBut.trans (puK HK.out) (KeepBut.of_below hb g none) (.inl rfl));have n3_:=m_ (l5_ (puM HB.out (IsS85.ge HI0.out)) hb);revert n0_ n1_ n2_ n3_;clear HO342 HI0 HK HB;intro HO342 HI0 HK HB;(try clear hb);(try clear hb2);(try clear hk);(try clear hi)))
       go_roundg k1
       case measure=>have:=HK1.out;omega
       case rel=>exact ⟨(x5_1 ++ (((⟨#[64]⟩ : ByteArray) ++ t350) ++ (⟨#[59]⟩ : ByteArray))),(wrap64 (x6_1 - 1)),(t349),(by first|rfl|(simp;done)|(simp [*];done)),(by first|rfl|(simp;done)|(simp [*];done)),H',⟨by have:=HK1.out;omega⟩,⟨by repeat (first|(with_reducible first|exact HI0.out|apply IsS85.alloc|apply IsS85.drewN|apply IsS85.drew|apply IsS85.set_1)|exact HI0.out)⟩,⟨puK HK.out⟩,⟨puM HB.out (IsS85.ge HI0.out)⟩⟩
      ·rw [if_neg c14] at H
       exact absurd H (by simp)
     ·rw [if_neg c13] at H
      have c13b0 : decide ((wrap64 ((x5_1.size : Int) + (1 + (t350.size : Int) + 1))) ≤ a1) = false:=decide_eq_false c13
      clear c13
      have H':=m_ H
      clear H
      go_wp2_with (first|((with_reducible refine gate_dst (N:=15) rfl ?_);refine Kd.R_lit Kd.string _ 9 ?hg (N:=15) ?hd (xs:=([(⟨#[97]⟩ : ByteArray),(⟨#[98,99]⟩ : ByteArray),(⟨#[64]⟩ : ByteArray),(⟨#[64,49]⟩ : ByteArray),(⟨#[59]⟩ : ByteArray),(⟨#[58,53]⟩ : ByteArray),(⟨#[120,49]⟩ : ByteArray),(⟨#[64,64]⟩ : ByteArray),(⟨#[64,49,58]⟩ : ByteArray),(⟨#[55]⟩ : ByteArray)] : List ByteArray)) (inner:=[.string (⟨#[97]⟩ : ByteArray),.string (⟨#[98,99]⟩ : ByteArray),.string (⟨#[64]⟩ : ByteArray),.string (⟨#[64,49]⟩ : ByteArray),.string (⟨#[59]⟩ : ByteArray),.string (⟨#[58,53]⟩ : ByteArray),.string (⟨#[120,49]⟩ : ByteArray),.string (⟨#[64,64]⟩ : ByteArray),.string (⟨#[64,49,58]⟩ : ByteArray),.string (⟨#[55]⟩ : ByteArray)]) (ok:=fun _=>True) (okp:=fun _=>True) ?hr ?hp (fun _ hk=>hk) trivial (Below.refl _ _) (Nat.le_refl _) (by simp) ?_;(case hd=>rfl);(case hg=>rfl);(case hr=>first|(go_simp;done)|(go_simp;rfl));(case hp=>exact (Reps.one (show Kd.M Kd.string _ _ _ (⟨#[97]⟩ : ByteArray) [.string (⟨#[97]⟩ : ByteArray)] from rfl) (Reps.one (show Kd.M Kd.string _ _ _ (⟨#[98,99]⟩ : ByteArray) [.string (⟨#[98,99]⟩ : ByteArray)] from rfl) (Reps.one (show Kd.M Kd.string _ _ _ (⟨#[64]⟩ : ByteArray) [.string (⟨#[64]⟩ : ByteArray)] from rfl) (Reps.one (show Kd.M Kd.string _ _ _ (⟨#[64,49]⟩ : ByteArray) [.string (⟨#[64,49]⟩ : ByteArray)] from rfl) (Reps.one (show Kd.M Kd.string _ _ _ (⟨#[59]⟩ : ByteArray) [.string (⟨#[59]⟩ : ByteArray)] from rfl) (Reps.one (show Kd.M Kd.string _ _ _ (⟨#[58,53]⟩ : ByteArray) [.string (⟨#[58,53]⟩ : ByteArray)] from rfl) (Reps.one (show Kd.M Kd.string _ _ _ (⟨#[120,49]⟩ : ByteArray) [.string (⟨#[120,49]⟩ : ByteArray)] from rfl) (Reps.one (show Kd.M Kd.string _ _ _ (⟨#[64,64]⟩ : ByteArray) [.string (⟨#[64,64]⟩ : ByteArray)] from rfl) (Reps.one (show Kd.M Kd.string _ _ _ (⟨#[64,49,58]⟩ : ByteArray) [.string (⟨#[64,49,58]⟩ : ByteArray)] from rfl) (Reps.one (show Kd.M Kd.string _ _ _ (⟨#[55]⟩ : ByteArray) [.string (⟨#[55]⟩ : ByteArray)] from rfl) (Reps.none _ _))))))))))));intro v341 w22 ho23 hb hg_ hnew_;clear hg_ hnew_;(first|rw [← Ny340.out] at ho23|(simp only [Int.reduceToNat] at ho23;rw [← Ny340.out] at ho23));have n0_:=m_ (Kd.R_lower ho23 (keep_size (w:=w) (g:=g) (row:=none) (puK HK.out)));have n1_:=m_ (IsS85.below (by repeat (first|(with_reducible first|exact HI0.out|apply IsS85.alloc|apply IsS85.drewN|apply IsS85.drew|apply IsS85.set_1)|exact HI0.out)) hb);have n2_:=m_ (KeepBut.trans (puK HK.out) (KeepBut.of_below hb g none) (.inl rfl));have n3_:=m_ (l5_ (puM HB.out (IsS85.ge HI0.out)) hb);revert n0_ n1_ n2_ n3_;clear HI0 HK HB;intro HO342 HI0 HK HB;clear hb ho23;obtain ⟨Ao24,co24,eo24⟩:=Kd.R_slice HO342.out;subst eo24)|((with_reducible refine gate_callee (f:=56) rfl ?_);refine goesL_ (some 16) rfl rfl Tryd.func56 (by kernel_rfl) rfl #[.pointer (some ⟨g,0,none⟩),.slice Ao24 y340.length co24] rfl lens ?_;(with_reducible refine (spec_l6Rd_of.calls k1 g s0_0 x1001_1 _ _ y340 t343 t344 w0 _ ?side1 ?side2 ?side3 ?side4 ?side5 A6.out).mono ?_);(case side1=>repeat (first|(with_reducible first|exact HI0.out|apply IsS85.alloc|apply IsS85.drewN|apply IsS85.drew|apply IsS85.set_1)|exact HI0.out));(case side2=>repeat (first|(with_reducible first|exact HB.out|apply l1_|apply l2_|apply l3_|refine l4_ ?_ (IsS85.ge HI0.out))|exact HB.out));(case side3=>repeat (first|exact (Kd.R_reads' HO342.out).2.2|(with_reducible refine Kd.C_alloc ?_ _)|(with_reducible refine Kd.C_drewN ?_ _)|(with_reducible refine Kd.C_drew ?_)));(case side4=>exact (Kd.R_reads' HO342.out).2.1);(case side5=>exact far_slice (IsS85.own_ne HI0.out HO342.out (by decide)));rintro e w25 ⟨rfl,hi,hb,hk⟩;refine ⟨_,rfl,?_⟩;have n0_:=m_ (Kd.R_mono (Kd.R_keep (IsS85.apart (show IsS85 w0 _ g s0_0 x1001_1 from by repeat (first|(with_reducible first|exact HI0.out|apply IsS85.alloc|apply IsS85.drewN|apply IsS85.drew|apply IsS85.set_1)|exact HI0.out)) (puR HO342.out) (by decide)) hk (fun _ h=>h.2)) (fun _ h=>h.1));have n1_:=m_ (KeepBut.trans (puK HK.out) hk (.inl rfl));have n2_:=m_ (hb);have n3_:=m_ (hi);revert n0_ n1_ n2_ n3_;clear HO342 HK HB HI0;intro HO342 HK HB HI0;(try clear hb);(try clear hb2);(try clear hk);(try clear hi))|((with_reducible refine gate_callee (f:=53) rfl ?_);refine goesL_ (some 18) rfl rfl Tryd.func53 (by kernel_rfl) rfl #[.pointer (some ⟨g,0,none⟩),.int .i64 5] rfl lens ?_;(with_reducible refine (spec_l6Rd_pick.calls k1 g s0_0 t344 5 t345 t346 w0 _ ?side1 ?side2 A7.out).mono ?_);(case side1=>repeat (first|(with_reducible first|exact HI0.out|apply IsS85.alloc|apply IsS85.drewN|apply IsS85.drew|apply IsS85.set_1)|exact HI0.out));(case side2=>repeat (first|(with_reducible first|exact HB.out|apply l1_|apply l2_|apply l3_|refine l4_ ?_ (IsS85.ge HI0.out))|exact HB.out));rintro e w26 ⟨rfl,hi,hb,hk⟩;refine ⟨_,rfl,?_⟩;have n0_:=m_ (Kd.R_mono (Kd.R_keep (IsS85.apart (show IsS85 w0 _ g s0_0 t344 from by repeat (first|(with_reducible first|exact HI0.out|apply IsS85.alloc|apply IsS85.drewN|apply IsS85.drew|apply IsS85.set_1)|exact HI0.out)) (puR HO342.out) (by decide)) hk (fun _ h=>h.2)) (fun _ h=>h.1));have n1_:=m_ (KeepBut.trans (puK HK.out) hk (.inl rfl));have n2_:=m_ (hb);have n3_:=m_ (hi);revert n0_ n1_ n2_ n3_;clear HO342 HK HB HI0;intro HO342 HK HB HI0;(try clear hb);(try clear hb2);(try clear hk);(try clear hi))|((with_reducible refine gate_callee (f:=65) rfl ?_);refine goesL_ (some 21) rfl rfl Tryd.func65 (by kernel_rfl) rfl #[.pointer (some ⟨g,0,none⟩)] rfl lens ?_;(with_reducible refine (spec_l71End.calls k1 g s0_0 t346 t347 t348 t349 w0 _ ?side1 ?side2 A9.out).mono ?_);(case side1=>repeat (first|(with_reducible first|exact HI0.out|apply IsS85.alloc|apply IsS85.drewN|apply IsS85.drew|apply IsS85.set_1)|exact HI0.out));(case side2=>repeat (first|(with_reducible first|exact HB.out|apply l1_|apply l2_|apply l3_|refine l4_ ?_ (IsS85.ge HI0.out))|exact HB.out));rintro e w27 ⟨rfl,hi,hb,hk⟩;refine ⟨_,rfl,?_⟩;have n0_:=m_ (Kd.R_mono (Kd.R_keep (IsS85.apart (show IsS85 w0 _ g s0_0 t346 from by repeat (first|(with_reducible first|exact HI0.out|apply IsS85.alloc|apply IsS85.drewN|apply IsS85.drew|apply IsS85.set_1)|exact HI0.out)) (puR HO342.out) (by decide)) hk (fun _ h=>h.2)) (fun _ h=>h.1));have n1_:=m_ (KeepBut.trans (puK HK.out) hk (.inl rfl));have n2_:=m_ (hb);have n3_:=m_ (hi);revert n0_ n1_ n2_ n3_;clear HO342 HK HB HI0;intro HO342 HK HB HI0;(try clear hb);(try clear hb2);(try clear hk);(try clear hi))|((with_reducible refine gate_callee (f:=67) rfl ?_);refine goesL_ (some 22) rfl rfl Tryd.func67 (by kernel_rfl) rfl #[.agg #[.int .i64 t347,.int .i64 t348]] rfl lens ?_;(with_reducible refine (spec_EndText.calls k1 t347 t348 t350 _ A10.out).mono ?_);rintro e w28 ⟨rfl,hb⟩;refine ⟨_,rfl,?_⟩;have n0_:=m_ (Kd.R_below (puR HO342.out) hb);have n1_:=m_ (IsS85.below (by repeat (first|(with_reducible first|exact HI0.out|apply IsS85.alloc|apply IsS85.drewN|apply IsS85.drew|apply IsS85.set_1)|exact HI0.out)) hb);have n2_:=m_ (KeepBut.trans (puK HK.out) (KeepBut.of_below hb g none) (.inl rfl));have n3_:=m_ (l5_ (puM HB.out (IsS85.ge HI0.out)) hb);revert n0_ n1_ n2_ n3_;clear HO342 HI0 HK HB;intro HO342 HI0 HK HB;(try clear hb);(try clear hb2);(try clear hk);(try clear hi)))
      go_roundg k1
      case measure=>have:=HK1.out;omega
      case rel=>exact ⟨(x5_1),(wrap64 (x6_1 - 1)),(t349),(by first|rfl|(simp;done)|(simp [*];done)),(by first|rfl|(simp;done)|(simp [*];done)),H',⟨by have:=HK1.out;omega⟩,⟨by repeat (first|(with_reducible first|exact HI0.out|apply IsS85.alloc|apply IsS85.drewN|apply IsS85.drew|apply IsS85.set_1)|exact HI0.out)⟩,⟨puK HK.out⟩,⟨puM HB.out (IsS85.ge HI0.out)⟩⟩
    ·rw [if_neg c8] at H
     have c8b0 : decide (t345 < 3) = false:=decide_eq_false c8
     clear c8
     by_cases c29 : (wrap64 ((x5_1.size : Int) + (t343.size : Int))) ≤ a1
     ·rw [if_pos c29] at H
      have c29b0 : decide ((wrap64 ((x5_1.size : Int) + (t343.size : Int))) ≤ a1) = true:=decide_eq_true c29
      clear c29
      by_cases c30 : x5_1.size + t343.size ≤ 9223372036854775807
      ·rw [if_pos c30] at H
       have c30b0:=eq_true c30
       have c30b1:=decide_eq_true c30
       try have c30b2 : (9223372036854775807 < x5_1.size + t343.size) = False:=eq_false (Nat.not_lt.2 c30)
       clear c30
       have H':=m_ H
       clear H
       go_wp2_with (first|((with_reducible refine gate_dst (N:=15) rfl ?_);refine Kd.R_lit Kd.string _ 9 ?hg (N:=15) ?hd (xs:=([(⟨#[97]⟩ : ByteArray),(⟨#[98,99]⟩ : ByteArray),(⟨#[64]⟩ : ByteArray),(⟨#[64,49]⟩ : ByteArray),(⟨#[59]⟩ : ByteArray),(⟨#[58,53]⟩ : ByteArray),(⟨#[120,49]⟩ : ByteArray),(⟨#[64,64]⟩ : ByteArray),(⟨#[64,49,58]⟩ : ByteArray),(⟨#[55]⟩ : ByteArray)] : List ByteArray)) (inner:=[.string (⟨#[97]⟩ : ByteArray),.string (⟨#[98,99]⟩ : ByteArray),.string (⟨#[64]⟩ : ByteArray),.string (⟨#[64,49]⟩ : ByteArray),.string (⟨#[59]⟩ : ByteArray),.string (⟨#[58,53]⟩ : ByteArray),.string (⟨#[120,49]⟩ : ByteArray),.string (⟨#[64,64]⟩ : ByteArray),.string (⟨#[64,49,58]⟩ : ByteArray),.string (⟨#[55]⟩ : ByteArray)]) (ok:=fun _=>True) (okp:=fun _=>True) ?hr ?hp (fun _ hk=>hk) trivial (Below.refl _ _) (Nat.le_refl _) (by simp) ?_;(case hd=>rfl);(case hg=>rfl);(case hr=>first|(go_simp;done)|(go_simp;rfl));(case hp=>exact (Reps.one (show Kd.M Kd.string _ _ _ (⟨#[97]⟩ : ByteArray) [.string (⟨#[97]⟩ : ByteArray)] from rfl) (Reps.one (show Kd.M Kd.string _ _ _ (⟨#[98,99]⟩ : ByteArray) [.string (⟨#[98,99]⟩ : ByteArray)] from rfl) (Reps.one (show Kd.M Kd.string _ _ _ (⟨#[64]⟩ : ByteArray) [.string (⟨#[64]⟩ : ByteArray)] from rfl) (Reps.one (show Kd.M Kd.string _ _ _ (⟨#[64,49]⟩ : ByteArray) [.string (⟨#[64,49]⟩ : ByteArray)] from rfl) (Reps.one (show Kd.M Kd.string _ _ _ (⟨#[59]⟩ : ByteArray) [.string (⟨#[59]⟩ : ByteArray)] from rfl) (Reps.one (show Kd.M Kd.string _ _ _ (⟨#[58,53]⟩ : ByteArray) [.string (⟨#[58,53]⟩ : ByteArray)] from rfl) (Reps.one (show Kd.M Kd.string _ _ _ (⟨#[120,49]⟩ : ByteArray) [.string (⟨#[120,49]⟩ : ByteArray)] from rfl) (Reps.one (show Kd.M Kd.string _ _ _ (⟨#[64,64]⟩ : ByteArray) [.string (⟨#[64,64]⟩ : ByteArray)] from rfl) (Reps.one (show Kd.M Kd.string _ _ _ (⟨#[64,49,58]⟩ : ByteArray) [.string (⟨#[64,49,58]⟩ : ByteArray)] from rfl) (Reps.one (show Kd.M Kd.string _ _ _ (⟨#[55]⟩ : ByteArray) [.string (⟨#[55]⟩ : ByteArray)] from rfl) (Reps.none _ _))))))))))));intro v341 w31 ho32 hb hg_ hnew_;clear hg_ hnew_;(first|rw [← Ny340.out] at ho32|(simp only [Int.reduceToNat] at ho32;rw [← Ny340.out] at ho32));have n0_:=m_ (Kd.R_lower ho32 (keep_size (w:=w) (g:=g) (row:=none) (puK HK.out)));have n1_:=m_ (IsS85.below (by repeat (first|(with_reducible first|exact HI0.out|apply IsS85.alloc|apply IsS85.drewN|apply IsS85.drew|apply IsS85.set_1)|exact HI0.out)) hb);have n2_:=m_ (KeepBut.trans (puK HK.out) (KeepBut.of_below hb g none) (.inl rfl));have n3_:=m_ (l5_ (puM HB.out (IsS85.ge HI0.out)) hb);revert n0_ n1_ n2_ n3_;clear HI0 HK HB;intro HO342 HI0 HK HB;clear hb ho32;obtain ⟨Ao33,co33,eo33⟩:=Kd.R_slice HO342.out;subst eo33)|((with_reducible refine gate_callee (f:=56) rfl ?_);refine goesL_ (some 16) rfl rfl Tryd.func56 (by kernel_rfl) rfl #[.pointer (some ⟨g,0,none⟩),.slice Ao33 y340.length co33] rfl lens ?_;(with_reducible refine (spec_l6Rd_of.calls k1 g s0_0 x1001_1 _ _ y340 t343 t344 w0 _ ?side1 ?side2 ?side3 ?side4 ?side5 A6.out).mono ?_);(case side1=>repeat (first|(with_reducible first|exact HI0.out|apply IsS85.alloc|apply IsS85.drewN|apply IsS85.drew|apply IsS85.set_1)|exact HI0.out));(case side2=>repeat (first|(with_reducible first|exact HB.out|apply l1_|apply l2_|apply l3_|refine l4_ ?_ (IsS85.ge HI0.out))|exact HB.out));(case side3=>repeat (first|exact (Kd.R_reads' HO342.out).2.2|(with_reducible refine Kd.C_alloc ?_ _)|(with_reducible refine Kd.C_drewN ?_ _)|(with_reducible refine Kd.C_drew ?_)));(case side4=>exact (Kd.R_reads' HO342.out).2.1);(case side5=>exact far_slice (IsS85.own_ne HI0.out HO342.out (by decide)));rintro e w34 ⟨rfl,hi,hb,hk⟩;refine ⟨_,rfl,?_⟩;have n0_:=m_ (Kd.R_mono (Kd.R_keep (IsS85.apart (show IsS85 w0 _ g s0_0 x1001_1 from by repeat (first|(with_reducible first|exact HI0.out|apply IsS85.alloc|apply IsS85.drewN|apply IsS85.drew|apply IsS85.set_1)|exact HI0.out)) (puR HO342.out) (by decide)) hk (fun _ h=>h.2)) (fun _ h=>h.1));have n1_:=m_ (KeepBut.trans (puK HK.out) hk (.inl rfl));have n2_:=m_ (hb);have n3_:=m_ (hi);revert n0_ n1_ n2_ n3_;clear HO342 HK HB HI0;intro HO342 HK HB HI0;(try clear hb);(try clear hb2);(try clear hk);(try clear hi))|((with_reducible refine gate_callee (f:=53) rfl ?_);refine goesL_ (some 18) rfl rfl Tryd.func53 (by kernel_rfl) rfl #[.pointer (some ⟨g,0,none⟩),.int .i64 5] rfl lens ?_;(with_reducible refine (spec_l6Rd_pick.calls k1 g s0_0 t344 5 t345 t346 w0 _ ?side1 ?side2 A7.out).mono ?_);(case side1=>repeat (first|(with_reducible first|exact HI0.out|apply IsS85.alloc|apply IsS85.drewN|apply IsS85.drew|apply IsS85.set_1)|exact HI0.out));(case side2=>repeat (first|(with_reducible first|exact HB.out|apply l1_|apply l2_|apply l3_|refine l4_ ?_ (IsS85.ge HI0.out))|exact HB.out));rintro e w35 ⟨rfl,hi,hb,hk⟩;refine ⟨_,rfl,?_⟩;have n0_:=m_ (Kd.R_mono (Kd.R_keep (IsS85.apart (show IsS85 w0 _ g s0_0 t344 from by repeat (first|(with_reducible first|exact HI0.out|apply IsS85.alloc|apply IsS85.drewN|apply IsS85.drew|apply IsS85.set_1)|exact HI0.out)) (puR HO342.out) (by decide)) hk (fun _ h=>h.2)) (fun _ h=>h.1));have n1_:=m_ (KeepBut.trans (puK HK.out) hk (.inl rfl));have n2_:=m_ (hb);have n3_:=m_ (hi);revert n0_ n1_ n2_ n3_;clear HO342 HK HB HI0;intro HO342 HK HB HI0;(try clear hb);(try clear hb2);(try clear hk);(try clear hi)))
       go_roundg k1
       case measure=>have:=HK1.out;omega
       case rel=>exact ⟨(x5_1 ++ t343),(wrap64 (x6_1 - 1)),(t346),(by first|rfl|(simp;done)|(simp [*];done)),(by first|rfl|(simp;done)|(simp [*];done)),H',⟨by have:=HK1.out;omega⟩,⟨by repeat (first|(with_reducible first|exact HI0.out|apply IsS85.alloc|apply IsS85.drewN|apply IsS85.drew|apply IsS85.set_1)|exact HI0.out)⟩,⟨puK HK.out⟩,⟨puM HB.out (IsS85.ge HI0.out)⟩⟩
      ·rw [if_neg c30] at H
       exact absurd H (by simp)
     ·rw [if_neg c29] at H
      have c29b0 : decide ((wrap64 ((x5_1.size : Int) + (t343.size : Int))) ≤ a1) = false:=decide_eq_false c29
      clear c29
      have H':=m_ H
      clear H
      go_wp2_with (first|((with_reducible refine gate_dst (N:=15) rfl ?_);refine Kd.R_lit Kd.string _ 9 ?hg (N:=15) ?hd (xs:=([(⟨#[97]⟩ : ByteArray),(⟨#[98,99]⟩ : ByteArray),(⟨#[64]⟩ : ByteArray),(⟨#[64,49]⟩ : ByteArray),(⟨#[59]⟩ : ByteArray),(⟨#[58,53]⟩ : ByteArray),(⟨#[120,49]⟩ : ByteArray),(⟨#[64,64]⟩ : ByteArray),(⟨#[64,49,58]⟩ : ByteArray),(⟨#[55]⟩ : ByteArray)] : List ByteArray)) (inner:=[.string (⟨#[97]⟩ : ByteArray),.string (⟨#[98,99]⟩ : ByteArray),.string (⟨#[64]⟩ : ByteArray),.string (⟨#[64,49]⟩ : ByteArray),.string (⟨#[59]⟩ : ByteArray),.string (⟨#[58,53]⟩ : ByteArray),.string (⟨#[120,49]⟩ : ByteArray),.string (⟨#[64,64]⟩ : ByteArray),.string (⟨#[64,49,58]⟩ : ByteArray),.string (⟨#[55]⟩ : ByteArray)]) (ok:=fun _=>True) (okp:=fun _=>True) ?hr ?hp (fun _ hk=>hk) trivial (Below.refl _ _) (Nat.le_refl _) (by simp) ?_;(case hd=>rfl);(case hg=>rfl);(case hr=>first|(go_simp;done)|(go_simp;rfl));(case hp=>exact (Reps.one (show Kd.M Kd.string _ _ _ (⟨#[97]⟩ : ByteArray) [.string (⟨#[97]⟩ : ByteArray)] from rfl) (Reps.one (show Kd.M Kd.string _ _ _ (⟨#[98,99]⟩ : ByteArray) [.string (⟨#[98,99]⟩ : ByteArray)] from rfl) (Reps.one (show Kd.M Kd.string _ _ _ (⟨#[64]⟩ : ByteArray) [.string (⟨#[64]⟩ : ByteArray)] from rfl) (Reps.one (show Kd.M Kd.string _ _ _ (⟨#[64,49]⟩ : ByteArray) [.string (⟨#[64,49]⟩ : ByteArray)] from rfl) (Reps.one (show Kd.M Kd.string _ _ _ (⟨#[59]⟩ : ByteArray) [.string (⟨#[59]⟩ : ByteArray)] from rfl) (Reps.one (show Kd.M Kd.string _ _ _ (⟨#[58,53]⟩ : ByteArray) [.string (⟨#[58,53]⟩ : ByteArray)] from rfl) (Reps.one (show Kd.M Kd.string _ _ _ (⟨#[120,49]⟩ : ByteArray) [.string (⟨#[120,49]⟩ : ByteArray)] from rfl) (Reps.one (show Kd.M Kd.string _ _ _ (⟨#[64,64]⟩ : ByteArray) [.string (⟨#[64,64]⟩ : ByteArray)] from rfl) (Reps.one (show Kd.M Kd.string _ _ _ (⟨#[64,49,58]⟩ : ByteArray) [.string (⟨#[64,49,58]⟩ : ByteArray)] from rfl) (Reps.one (show Kd.M Kd.string _ _ _ (⟨#[55]⟩ : ByteArray) [.string (⟨#[55]⟩ : ByteArray)] from rfl) (Reps.none _ _))))))))))));intro v341 w36 ho37 hb hg_ hnew_;clear hg_ hnew_;(first|rw [← Ny340.out] at ho37|(simp only [Int.reduceToNat] at ho37;rw [← Ny340.out] at ho37));have n0_:=m_ (Kd.R_lower ho37 (keep_size (w:=w) (g:=g) (row:=none) (puK HK.out)));have n1_:=m_ (IsS85.below (by repeat (first|(with_reducible first|exact HI0.out|apply IsS85.alloc|apply IsS85.drewN|apply IsS85.drew|apply IsS85.set_1)|exact HI0.out)) hb);have n2_:=m_ (KeepBut.trans (puK HK.out) (KeepBut.of_below hb g none) (.inl rfl));have n3_:=m_ (l5_ (puM HB.out (IsS85.ge HI0.out)) hb);revert n0_ n1_ n2_ n3_;clear HI0 HK HB;intro HO342 HI0 HK HB;clear hb ho37;obtain ⟨Ao38,co38,eo38⟩:=Kd.R_slice HO342.out;subst eo38)|((with_reducible refine gate_callee (f:=56) rfl ?_);refine goesL_ (some 16) rfl rfl Tryd.func56 (by kernel_rfl) rfl #[.pointer (some ⟨g,0,none⟩),.slice Ao38 y340.length co38] rfl lens ?_;(with_reducible refine (spec_l6Rd_of.calls k1 g s0_0 x1001_1 _ _ y340 t343 t344 w0 _ ?side1 ?side2 ?side3 ?side4 ?side5 A6.out).mono ?_);(case side1=>repeat (first|(with_reducible first|exact HI0.out|apply IsS85.alloc|apply IsS85.drewN|apply IsS85.drew|apply IsS85.set_1)|exact HI0.out));(case side2=>repeat (first|(with_reducible first|exact HB.out|apply l1_|apply l2_|apply l3_|refine l4_ ?_ (IsS85.ge HI0.out))|exact HB.out));(case side3=>repeat (first|exact (Kd.R_reads' HO342.out).2.2|(with_reducible refine Kd.C_alloc ?_ _)|(with_reducible refine Kd.C_drewN ?_ _)|(with_reducible refine Kd.C_drew ?_)));(case side4=>exact (Kd.R_reads' HO342.out).2.1);(case side5=>exact far_slice (IsS85.own_ne HI0.out HO342.out (by decide)));rintro e w39 ⟨rfl,hi,hb,hk⟩;refine ⟨_,rfl,?_⟩;have n0_:=m_ (Kd.R_mono (Kd.R_keep (IsS85.apart (show IsS85 w0 _ g s0_0 x1001_1 from by repeat (first|(with_reducible first|exact HI0.out|apply IsS85.alloc|apply IsS85.drewN|apply IsS85.drew|apply IsS85.set_1)|exact HI0.out)) (puR HO342.out) (by decide)) hk (fun _ h=>h.2)) (fun _ h=>h.1));have n1_:=m_ (KeepBut.trans (puK HK.out) hk (.inl rfl));have n2_:=m_ (hb);have n3_:=m_ (hi);revert n0_ n1_ n2_ n3_;clear HO342 HK HB HI0;intro HO342 HK HB HI0;(try clear hb);(try clear hb2);(try clear hk);(try clear hi))|((with_reducible refine gate_callee (f:=53) rfl ?_);refine goesL_ (some 18) rfl rfl Tryd.func53 (by kernel_rfl) rfl #[.pointer (some ⟨g,0,none⟩),.int .i64 5] rfl lens ?_;(with_reducible refine (spec_l6Rd_pick.calls k1 g s0_0 t344 5 t345 t346 w0 _ ?side1 ?side2 A7.out).mono ?_);(case side1=>repeat (first|(with_reducible first|exact HI0.out|apply IsS85.alloc|apply IsS85.drewN|apply IsS85.drew|apply IsS85.set_1)|exact HI0.out));(case side2=>repeat (first|(with_reducible first|exact HB.out|apply l1_|apply l2_|apply l3_|refine l4_ ?_ (IsS85.ge HI0.out))|exact HB.out));rintro e w40 ⟨rfl,hi,hb,hk⟩;refine ⟨_,rfl,?_⟩;have n0_:=m_ (Kd.R_mono (Kd.R_keep (IsS85.apart (show IsS85 w0 _ g s0_0 t344 from by repeat (first|(with_reducible first|exact HI0.out|apply IsS85.alloc|apply IsS85.drewN|apply IsS85.drew|apply IsS85.set_1)|exact HI0.out)) (puR HO342.out) (by decide)) hk (fun _ h=>h.2)) (fun _ h=>h.1));have n1_:=m_ (KeepBut.trans (puK HK.out) hk (.inl rfl));have n2_:=m_ (hb);have n3_:=m_ (hi);revert n0_ n1_ n2_ n3_;clear HO342 HK HB HI0;intro HO342 HK HB HI0;(try clear hb);(try clear hb2);(try clear hk);(try clear hi)))
      go_roundg k1
      case measure=>have:=HK1.out;omega
      case rel=>exact ⟨(x5_1),(wrap64 (x6_1 - 1)),(t346),(by first|rfl|(simp;done)|(simp [*];done)),(by first|rfl|(simp;done)|(simp [*];done)),H',⟨by have:=HK1.out;omega⟩,⟨by repeat (first|(with_reducible first|exact HI0.out|apply IsS85.alloc|apply IsS85.drewN|apply IsS85.drew|apply IsS85.set_1)|exact HI0.out)⟩,⟨puK HK.out⟩,⟨puM HB.out (IsS85.ge HI0.out)⟩⟩
   ·rw [if_neg c5] at H
    have c5b0 : decide (0 < x6_1) = false:=decide_eq_false c5
    clear c5
    simp only [Option.some.injEq,Prod.mk.injEq] at H
    obtain ⟨rfl,rfl⟩:=H
    go_wp2
    go_ret
    exact ⟨eqs,by repeat (first|(with_reducible first|exact HI0.out|apply IsS85.alloc|apply IsS85.drewN|apply IsS85.drew|apply IsS85.set_1)|exact HI0.out),puM HB.out (IsS85.ge HI0.out),puK HK.out⟩

/-! ### spec_l11Done: function 68 -/
def spec_l11Done.l0 : Nat → Int → Int → ByteArray → List (S41) → Option (Int)
 | 0, _, _, _, _ => none
 | k + 1, x3, x4, x352000, x352001 => if x4 < (x352001.length : Int) then (if 0 ≤ x4 then (spec_l11Done.l0 k (wrap64 (x3 + ((rd_T41 x352001 x4).f0))) (wrap64 (x4 + 1)) x352000 x352001) else (none)) else (some x3)
def spec_l11Done.f (k : Nat) (a0_0 : ByteArray) (l0_1 : List (S41)) : Option (Int) := spec_l11Done.l0 k 0 0 a0_0 l0_1
theorem spec_l11Done.mono_l : ∀ k, (∀ y0 y1 y2 y3, LeO (spec_l11Done.l0 k y0 y1 y2 y3) (spec_l11Done.l0 (k + 1) y0 y1 y2 y3))
 | 0 => fun _ _ _ _ r h => by simp [spec_l11Done.l0] at h
 | k + 1 => by
  have ih0:=spec_l11Done.mono_l k
  ·intro y0 y1 y2 y3
   unfold spec_l11Done.l0
   repeat' first
   | (with_reducible exact ih0 _ _ _ _)
   | (with_reducible exact LeO.refl _)
   | (with_reducible exact LeO.none _)
   | (with_reducible refine LeO.ite ?_ ?_)
   | (with_reducible refine LeO.bind ?_ (fun _ => ?_))
   | exact ih0 _ _ _ _
   | exact LeO.none _
   | refine LeO.ite ?_ ?_
   | refine LeO.bind ?_ (fun _ => ?_)
theorem spec_l11Done.mono : ∀ a0 a1 k, LeO (spec_l11Done.f k a0 a1) (spec_l11Done.f (k + 1) a0 a1) := by
 intro a0 a1 k
 have ih0:=spec_l11Done.mono_l k
 unfold spec_l11Done.f
 repeat' first
   | (with_reducible exact ih0 _ _ _ _)
   | (with_reducible exact LeO.refl _)
   | (with_reducible exact LeO.none _)
   | (with_reducible refine LeO.ite ?_ ?_)
   | (with_reducible refine LeO.bind ?_ (fun _ => ?_))
   | exact ih0 _ _ _ _
   | exact LeO.none _
   | refine LeO.ite ?_ ?_
   | refine LeO.bind ?_ (fun _ => ?_)
theorem spec_l11Done.calls (k : Nat) (a0_0 : ByteArray) (A0_1 : Option Addr) (c0_1 : Nat) (l0_1 : List (S41)) (r : Int) (w : World) (hr0_1 : Kd.C k41 w A0_1 l0_1.length l0_1) (hc0_1 : l0_1.length ≤ c0_1) (h : spec_l11Done.f k a0_0 l0_1 = some r) :
  Calls Tryd.prog 68 #[.agg #[.string a0_0,.slice A0_1 l0_1.length c0_1]] w fun e w'=>e = .returned (.int .i64 r) ∧ Below w.heap.size w w':=by
 have hu29:=Tryd.underlying29
 have HR0_1:=m_ hr0_1
 have HC0_1:=m_ hc0_1
 clear hr0_1 hc0_1
 have HB:=m_ (Below.refl w.heap.size w)
 have H : (spec_l11Done.l0 k 0 0 a0_0 l0_1) = some r:=h
 clear h
 have H':=m_ H
 clear H
 go_enter Tryd.func68,Tryd.ntmps68
 go_wp2_with (first|((with_reducible refine gate_dst (N:=1) rfl ?_);refine box_event ?hg (N:=1) ?hd (cs:=#[.string a0_0,.slice A0_1 l0_1.length c0_1]) (t:=29) ?hr ?_;(case hd=>rfl);(case hg=>rfl);(case hr=>first|(go_simp;done)|(go_simp;rfl));intro gb351 hg w2 hbox hb;have n0_:=m_ (l5_ (puL HB.out) hb);have n1_:=m_ (hbox);have n2_:=m_ ((by rw [hg];exact (l6_ (puL HB.out)) : w.heap.size ≤ gb351));have n3_:=n2_;revert n0_ n1_ n2_ n3_;clear HB;intro HB BK351 GW351 GE351;clear hb hbox hg))
 go_loopg [3,4] k (fun kq v3 v4 w'=>∃ (x3_1 : Int) (x4_1 : Int),v3 = .int .i64 x3_1 ∧ v4 = .int .i64 x4_1 ∧ Aside0 (spec_l11Done.l0 kq x3_1 x4_1 a0_0 l0_1 = some r) ∧ Aside0 (kq ≤ k) ∧ Aside0 (w'.heap[gb351]? = some (.cells #[.string a0_0,(.slice A0_1 l0_1.length c0_1)] 29 (0,0))) ∧ Aside0 (Below w.heap.size w w'))
 case atStart=>exact ⟨(0),(0),(by first|rfl|(simp;done)|(simp [*];done)),(by first|rfl|(simp;done)|(simp [*];done)),H',⟨Nat.le_refl _⟩,⟨by (with_reducible repeat first|apply b1_|apply b2_|apply b3_);exact BK351.out⟩,⟨puM HB.out GE351.out⟩⟩
 case round =>
  clear H'
  try clear p2
  obtain ⟨x3_1,x4_1,rfl,rfl,HA,HK1,BK351,HB⟩:=hrel
  cases gk with
  | zero => exact absurd HA.out (by simp [spec_l11Done.l0])
  | succ k1 =>
   have H:=HA.out
   clear HA
   simp only [spec_l11Done.l0] at H
   by_cases c3 : x4_1 < (l0_1.length : Int)
   ·rw [if_pos c3] at H
    have c3b0 : decide (x4_1 < (l0_1.length : Int)) = true:=decide_eq_true c3
    clear c3
    by_cases c4 : 0 ≤ x4_1
    rotate_left
    ·rw [if_neg c4] at H
     exact absurd H (by simp)
    rw [if_pos c4] at H
    have c4b0 : decide (0 ≤ x4_1) = true:=decide_eq_true c4
    clear c4
    have H':=m_ H
    clear H
    have hcz5_0 : wr.cell? ⟨gb351,0,none⟩ = some (.string a0_0):=(c_ BK351.out 0).trans rfl
    have hcz5_1 : wr.cell? ⟨gb351,1,none⟩ = some (.slice A0_1 l0_1.length c0_1):=(c_ BK351.out 1).trans rfl
    have p352 : 0 ≤ (x4_1 : Int):=of_decide_eq_true asm
    have q352 : x4_1 < (l0_1.length : Int):=of_decide_eq_true asm
    obtain ⟨ad352,e352,hx352_0,hx352_1⟩:=at_T41 HR0_1.out x4_1 p352 q352
    cases e352
    replace hx352_0:=(HB.out.cell (World.block_lt_of_cell? w _ hx352_0)).trans hx352_0
    replace hx352_1:=(HB.out.cell (World.block_lt_of_cell? w _ hx352_1)).trans hx352_1
    replace p352:=eq_true p352
    replace q352:=eq_true q352
    go_wp2
    go_roundg k1
    case measure=>have:=HK1.out;omega
    case rel=>exact ⟨(wrap64 (x3_1 + ((rd_T41 l0_1 x4_1).f0))),(wrap64 (x4_1 + 1)),(by first|rfl|(simp;done)|(simp [*];done)),(by first|rfl|(simp;done)|(simp [*];done)),H',⟨by have:=HK1.out;omega⟩,⟨by (with_reducible repeat first|apply b1_|apply b2_|apply b3_);exact BK351.out⟩,⟨puM HB.out GE351.out⟩⟩
   ·rw [if_neg c3] at H
    have c3b0 : decide (x4_1 < (l0_1.length : Int)) = false:=decide_eq_false c3
    clear c3
    obtain rfl:=Option.some.inj H
    have hcz6_0 : wr.cell? ⟨gb351,0,none⟩ = some (.string a0_0):=(c_ BK351.out 0).trans rfl
    have hcz6_1 : wr.cell? ⟨gb351,1,none⟩ = some (.slice A0_1 l0_1.length c0_1):=(c_ BK351.out 1).trans rfl
    go_wp2
    go_ret
    exact ⟨eqs,puM HB.out GE351.out⟩

/-! ### spec_l3PieceOut: function 69 -/
def spec_l3PieceOut.j0 : Nat → List (S98) → ByteArray → Bool → Int → Bool → Int → Int → Option ((List (S98)) × ByteArray)
 | 0, _, _, _, _, _, _, _ => none
 | k + 1, x0, x2, x19, x354000, x354001, x354002, x354003 => if x19 = true then (some (x0, x2)) else ((spec_l3Out.f k x0 x354002 x354003).bind fun bt355 => (if bt355.2.2 = true then ((spec_EndText.f k 9 bt355.2.1).bind fun t360 => (if 1 + t360.size ≤ 9223372036854775807 then (if 1 + t360.size + 1 ≤ 9223372036854775807 then (some (bt355.1, ((⟨#[64]⟩ : ByteArray) ++ t360) ++ (⟨#[59]⟩ : ByteArray))) else (none)) else (none))) else (some (bt355.1, x2))))
def spec_l3PieceOut.f (k : Nat) (l0 : List (S98)) (a1_0 : Int) (a1_1 : Bool) (a1_2 : Int) (a1_3 : Int) (a2 : ByteArray) : Option ((List (S98)) × ByteArray) := if a1_1 = true then ((spec_EndInside.f a1_2 a1_3).bind fun t354 => (spec_l3PieceOut.j0 k l0 a2 (!t354) a1_0 a1_1 a1_2 a1_3)) else (spec_l3PieceOut.j0 k l0 a2 true a1_0 a1_1 a1_2 a1_3)
theorem spec_l3PieceOut.mono_l : ∀ k, (∀ y0 y1 y2 y3 y4 y5 y6, LeO (spec_l3PieceOut.j0 k y0 y1 y2 y3 y4 y5 y6) (spec_l3PieceOut.j0 (k + 1) y0 y1 y2 y3 y4 y5 y6))
 | 0 => fun _ _ _ _ _ _ _ r h => by simp [spec_l3PieceOut.j0] at h
 | k + 1 => by
  have ih0:=spec_l3PieceOut.mono_l k
  ·intro y0 y1 y2 y3 y4 y5 y6
   unfold spec_l3PieceOut.j0
   repeat' first
   | (with_reducible exact ih0 _ _ _ _ _ _ _)
   | (with_reducible exact spec_EndText.mono _ _ _)
   | (with_reducible exact spec_l3Out.mono _ _ _ _)
   | (with_reducible exact LeO.refl _)
   | (with_reducible exact LeO.none _)
   | (with_reducible refine LeO.ite ?_ ?_)
   | (with_reducible refine LeO.bind ?_ (fun _ => ?_))
   | exact ih0 _ _ _ _ _ _ _
   | exact spec_EndText.mono _ _ _
   | exact spec_l3Out.mono _ _ _ _
   | exact LeO.none _
   | refine LeO.ite ?_ ?_
   | refine LeO.bind ?_ (fun _ => ?_)
theorem spec_l3PieceOut.mono : ∀ a0 a1 a2 a3 a4 a5 k, LeO (spec_l3PieceOut.f k a0 a1 a2 a3 a4 a5) (spec_l3PieceOut.f (k + 1) a0 a1 a2 a3 a4 a5) := by
 intro a0 a1 a2 a3 a4 a5 k
 have ih0:=spec_l3PieceOut.mono_l k
 unfold spec_l3PieceOut.f
 repeat' first
   | (with_reducible exact ih0 _ _ _ _ _ _ _)
   | (with_reducible exact spec_EndText.mono _ _ _)
   | (with_reducible exact spec_l3Out.mono _ _ _ _)
   | (with_reducible exact LeO.refl _)
   | (with_reducible exact LeO.none _)
   | (with_reducible refine LeO.ite ?_ ?_)
   | (with_reducible refine LeO.bind ?_ (fun _ => ?_))
   | exact ih0 _ _ _ _ _ _ _
   | exact spec_EndText.mono _ _ _
   | exact spec_l3Out.mono _ _ _ _
   | exact LeO.none _
   | refine LeO.ite ?_ ?_
   | refine LeO.bind ?_ (fun _ => ?_)
theorem spec_l3PieceOut.calls (k : Nat) (P0_ : Nat → Prop) (u9000_ : Value) (l0 : List (S98)) (a1_0 : Int) (a1_1 : Bool) (a1_2 : Int) (a1_3 : Int) (a2 : ByteArray) (r1 : List (S98)) (r2 : ByteArray) (w0 w : World) (hB : Below w0.heap.size w0 w) (ho0 : Kd.Q k98 98 w w0.heap.size P0_ u9000_ l0) (h : spec_l3PieceOut.f k l0 a1_0 a1_1 a1_2 a1_3 a2 = some (r1, r2)) :
  Calls Tryd.prog 69 #[u9000_,.agg #[.int .i64 a1_0,.bool a1_1,.int .i64 a1_2,.int .i64 a1_3],.string a2] w fun e w'=>∃ v0_ : Value,e = .returned (.tuple #[v0_,.string r2]) ∧ Kd.Q k98 98 w' w0.heap.size (fun k_=>(P0_ k_ ∨ w.heap.size ≤ k_)) v0_ r1 ∧ Below w0.heap.size w0 w' ∧ Kept w w' (fun k_=>P0_ k_):=by
 have hu45:=Tryd.underlying45
 have hu43:=Tryd.underlying43
 have HO0:=m_ (show Kd.Q k98 98 w w0.heap.size (fun k_=>(P0_ k_ ∨ w.heap.size ≤ k_)) u9000_ l0 from Kd.Q_mono ho0 (fun k_ hk=>(.inl hk)))
 have HK:=m_ (Kept.refl w (fun k_=>P0_ k_))
 have HW0:=m_ hB.size
 have HB:=m_ hB
 clear hB
 have H : (if a1_1 = true then ((spec_EndInside.f a1_2 a1_3).bind fun t354=>(spec_l3PieceOut.j0 k l0 a2 (!t354) a1_0 a1_1 a1_2 a1_3)) else (spec_l3PieceOut.j0 k l0 a2 true a1_0 a1_1 a1_2 a1_3)) = some (r1,r2):=h
 clear h
 have HC4:=m_ H
 clear H
 go_enter Tryd.func69,Tryd.ntmps69
 go_upto_region 1 with (first|((with_reducible refine gate_dst (N:=4) rfl ?_);refine box_event ?hg (N:=4) ?hd (cs:=#[.int .i64 a1_0,.bool a1_1,.int .i64 a1_2,.int .i64 a1_3]) (t:=45) ?hr ?_;(case hd=>rfl);(case hg=>rfl);(case hr=>first|(go_simp;done)|(go_simp;rfl));intro gb353 hg w5 hbox hb;have n0_:=m_ (Kd.Q_below (puQ HO0.out) hb);have n1_:=m_ (Kept.below (S:=(fun k_=>P0_ k_)) (by repeat (first|(with_reducible first|exact HK.out|apply Kept.alloc|apply Kept.drewN|apply Kept.drew)|exact HK.out)) hb);have n2_:=m_ (l5_ (puL HB.out) hb);have n3_:=m_ (hbox);have n4_:=m_ ((by rw [hg];exact (by first|exact HK.out.1|exact (show Kept w _ (fun k_=>P0_ k_) from by repeat (first|(with_reducible first|exact HK.out|apply Kept.alloc|apply Kept.drewN|apply Kept.drew)|exact HK.out)).1) : w.heap.size ≤ gb353));have n5_:=m_ ((by rw [hg];exact (l6_ (puL HB.out)) : w0.heap.size ≤ gb353));revert n0_ n1_ n2_ n3_ n4_ n5_;clear HO0 HK HB;intro HO0 HK HB BK353 GW353 GE353;clear hb hbox hg))
 (try simp only [Act.put,s1_,s2_,s3_])
 go_cut [19] (fun v19 wc=>∃ (kq : Nat) (x19_3 : Bool),v19 = .bool x19_3 ∧ Aside0 (spec_l3PieceOut.j0 kq l0 a2 x19_3 a1_0 a1_1 a1_2 a1_3 = some (r1,r2)) ∧ Aside0 (kq ≤ k) ∧ Aside0 (Kd.Q k98 98 wc w0.heap.size (fun k_=>(P0_ k_ ∨ w.heap.size ≤ k_)) u9000_ l0) ∧ Aside0 (wc.heap[gb353]? = some (.cells #[.int .i64 a1_0,.bool a1_1,.int .i64 a1_2,.int .i64 a1_3] 45 (0,0))) ∧ Aside0 (Kept w wc (fun k_=>P0_ k_)) ∧ Aside0 (Below w0.heap.size w0 wc))
 case first =>
  have H:=HC4.out
  clear HC4
  by_cases c6 : a1_1 = true
  ·subst c6
   have H1 : ((spec_EndInside.f a1_2 a1_3).bind fun t354=>(spec_l3PieceOut.j0 k l0 a2 (!t354) a1_0 true a1_2 a1_3)) = some (r1,r2):=by rw [if_pos rfl] at H;exact H
   clear H
   have H:=H1
   clear H1
   replace H:=Option.bind_eq_some_iff.mp H
   obtain ⟨t354,A70,H⟩:=H
   replace H : (spec_l3PieceOut.j0 k l0 a2 (!t354) a1_0 true a1_2 a1_3) = some (r1,r2):=H
   have A7:=m_ A70
   clear A70
   have H':=m_ H
   clear H
   have hcz8_0 : w5.cell? ⟨gb353,0,none⟩ = some (.int .i64 a1_0):=(c_ BK353.out 0).trans rfl
   have hcz8_1 : w5.cell? ⟨gb353,1,none⟩ = some (.bool true):=(c_ BK353.out 1).trans rfl
   have hcz8_2 : w5.cell? ⟨gb353,2,none⟩ = some (.int .i64 a1_2):=(c_ BK353.out 2).trans rfl
   have hcz8_3 : w5.cell? ⟨gb353,3,none⟩ = some (.int .i64 a1_3):=(c_ BK353.out 3).trans rfl
   go_wp2_with (first|(go_at_call 66;(with_reducible refine (spec_EndInside.calls a1_2 a1_3 t354 _ A7.out).mono ?_);rintro e w9 ⟨rfl,hb⟩;have n0_:=m_ (Kd.Q_below (puQ HO0.out) hb);have n1_:=m_ (blk_below (g:=gb353) (o:=.cells #[.int .i64 a1_0,.bool true,.int .i64 a1_2,.int .i64 a1_3] 45 (0,0)) (puB BK353.out) hb);have n2_:=m_ (Kept.below (S:=(fun k_=>P0_ k_)) (by repeat (first|(with_reducible first|exact HK.out|apply Kept.alloc|apply Kept.drewN|apply Kept.drew|refine Kept.setCell ?_ (.inr GW353.out) _)|exact HK.out)) hb);have n3_:=m_ (l5_ (puM HB.out GE353.out) hb);revert n0_ n1_ n2_ n3_;clear HO0 BK353 HK HB;intro HO0 BK353 HK HB;(try clear hb);(try clear hb2);(try clear hk);(try clear hi)))
   go_meet
   case rel=>exact ⟨_,(!t354),(by first|rfl|(simp;done)|(simp [*];done)),H',⟨by first|omega|exact Nat.le_refl _⟩,⟨by (with_reducible repeat (first|apply Kd.Q_alloc|apply Kd.Q_drewN|apply Kd.Q_drew));exact HO0.out⟩,⟨by (with_reducible repeat first|apply b1_|apply b2_|apply b3_);exact BK353.out⟩,⟨by repeat (first|(with_reducible first|exact HK.out|apply Kept.alloc|apply Kept.drewN|apply Kept.drew|refine Kept.setCell ?_ (.inr GW353.out) _)|exact HK.out)⟩,⟨puM HB.out GE353.out⟩⟩
  ·replace c6:=Bool.eq_false_iff.mpr c6
   subst c6
   have H1 : (spec_l3PieceOut.j0 k l0 a2 true a1_0 false a1_2 a1_3) = some (r1,r2):=by rw [if_neg (show ¬ (false = true) by decide)] at H;exact H
   clear H
   have H:=H1
   clear H1
   have H':=m_ H
   clear H
   have hcz10_0 : w5.cell? ⟨gb353,0,none⟩ = some (.int .i64 a1_0):=(c_ BK353.out 0).trans rfl
   have hcz10_1 : w5.cell? ⟨gb353,1,none⟩ = some (.bool false):=(c_ BK353.out 1).trans rfl
   have hcz10_2 : w5.cell? ⟨gb353,2,none⟩ = some (.int .i64 a1_2):=(c_ BK353.out 2).trans rfl
   have hcz10_3 : w5.cell? ⟨gb353,3,none⟩ = some (.int .i64 a1_3):=(c_ BK353.out 3).trans rfl
   go_wp2
   go_meet
   case rel=>exact ⟨_,(true),(by first|rfl|(simp;done)|(simp [*];done)),H',⟨by first|omega|exact Nat.le_refl _⟩,⟨by (with_reducible repeat (first|apply Kd.Q_alloc|apply Kd.Q_drewN|apply Kd.Q_drew));exact HO0.out⟩,⟨by (with_reducible repeat first|apply b1_|apply b2_|apply b3_);exact BK353.out⟩,⟨by repeat (first|(with_reducible first|exact HK.out|apply Kept.alloc|apply Kept.drewN|apply Kept.drew|refine Kept.setCell ?_ (.inr GW353.out) _)|exact HK.out)⟩,⟨puM HB.out GE353.out⟩⟩
 case rest =>
  clear HC4
  try clear p2
  try clear c6
  try clear hcz10_0
  try clear hcz10_1
  try clear hcz10_2
  try clear hcz10_3
  try clear hcz8_0
  try clear hcz8_1
  try clear hcz8_2
  try clear hcz8_3
  try clear hfz10_0
  try clear hfz10_1
  try clear hfz10_2
  try clear hfz10_3
  try clear hfz8_0
  try clear hfz8_1
  try clear hfz8_2
  try clear hfz8_3
  obtain ⟨kq,x19_3,rfl,HA,HJ3,HO_0,BK353,HK,HB⟩:=hcut
  cases kq with
  | zero => exact absurd HA.out (by simp [spec_l3PieceOut.j0])
  | succ kj3 =>
   have H:=HA.out
   clear HA
   simp only [spec_l3PieceOut.j0] at H
   by_cases c11 : x19_3 = true
   ·subst c11
    have H1 : (some (l0,a2)) = some (r1,r2):=by rw [if_pos rfl] at H;exact H
    clear H
    have H:=H1
    clear H1
    simp only [Option.some.injEq,Prod.mk.injEq] at H
    obtain ⟨rfl,rfl⟩:=H
    go_wp2
    go_ret2
    exact ⟨_,eqs,puQ HO_0.out,puM HB.out GE353.out,by repeat (first|(with_reducible first|exact HK.out|apply Kept.alloc|apply Kept.drewN|apply Kept.drew|refine Kept.setCell ?_ (.inr GW353.out) _)|exact HK.out)⟩
   ·replace c11:=Bool.eq_false_iff.mpr c11
    subst c11
    have H1 : ((spec_l3Out.f kj3 l0 a1_2 a1_3).bind fun bt355=>(if bt355.2.2 = true then ((spec_EndText.f kj3 9 bt355.2.1).bind fun t360=>(if 1 + t360.size ≤ 9223372036854775807 then (if 1 + t360.size + 1 ≤ 9223372036854775807 then (some (bt355.1,((⟨#[64]⟩ : ByteArray) ++ t360) ++ (⟨#[59]⟩ : ByteArray))) else (none)) else (none))) else (some (bt355.1,a2)))) = some (r1,r2):=by rw [if_neg (show ¬ (false = true) by decide)] at H;exact H
    clear H
    have H:=H1
    clear H1
    replace H:=Option.bind_eq_some_iff.mp H
    obtain ⟨⟨t355,t358,t359⟩,A120,H⟩:=H
    replace H : (if t359 = true then ((spec_EndText.f kj3 9 t358).bind fun t360=>(if 1 + t360.size ≤ 9223372036854775807 then (if 1 + t360.size + 1 ≤ 9223372036854775807 then (some (t355,((⟨#[64]⟩ : ByteArray) ++ t360) ++ (⟨#[59]⟩ : ByteArray))) else (none)) else (none))) else (some (t355,a2))) = some (r1,r2):=H
    have A12:=m_ A120
    clear A120
    by_cases c13 : t359 = true
    ·subst c13
     have H1 : ((spec_EndText.f kj3 9 t358).bind fun t360=>(if 1 + t360.size ≤ 9223372036854775807 then (if 1 + t360.size + 1 ≤ 9223372036854775807 then (some (t355,((⟨#[64]⟩ : ByteArray) ++ t360) ++ (⟨#[59]⟩ : ByteArray))) else (none)) else (none))) = some (r1,r2):=by rw [if_pos rfl] at H;exact H
     clear H
     have H:=H1
     clear H1
     replace H:=Option.bind_eq_some_iff.mp H
     obtain ⟨t360,A140,H⟩:=H
     replace H : (if 1 + t360.size ≤ 9223372036854775807 then (if 1 + t360.size + 1 ≤ 9223372036854775807 then (some (t355,((⟨#[64]⟩ : ByteArray) ++ t360) ++ (⟨#[59]⟩ : ByteArray))) else (none)) else (none)) = some (r1,r2):=H
     have A14:=m_ A140
     clear A140
     by_cases c15 : 1 + t360.size ≤ 9223372036854775807
     rotate_left
     ·rw [if_neg c15] at H
      exact absurd H (by simp)
     rw [if_pos c15] at H
     have c15b0:=eq_true c15
     have c15b1:=decide_eq_true c15
     try have c15b2 : (9223372036854775807 < 1 + t360.size) = False:=eq_false (Nat.not_lt.2 c15)
     by_cases c16 : 1 + t360.size + 1 ≤ 9223372036854775807
     ·rw [if_pos c16] at H
      have c16b0:=eq_true c16
      have c16b1:=decide_eq_true c16
      try have c16b2 : (9223372036854775807 < 1 + t360.size + 1) = False:=eq_false (Nat.not_lt.2 c16)
      simp only [Option.some.injEq,Prod.mk.injEq] at H
      obtain ⟨rfl,rfl⟩:=H
      have hcz17_0 : wc.cell? ⟨gb353,0,none⟩ = some (.int .i64 a1_0):=(c_ BK353.out 0).trans rfl
      have hcz17_1 : wc.cell? ⟨gb353,1,none⟩ = some (.bool a1_1):=(c_ BK353.out 1).trans rfl
      have hcz17_2 : wc.cell? ⟨gb353,2,none⟩ = some (.int .i64 a1_2):=(c_ BK353.out 2).trans rfl
      have hcz17_3 : wc.cell? ⟨gb353,3,none⟩ = some (.int .i64 a1_3):=(c_ BK353.out 3).trans rfl
      obtain ⟨Ao18,co18,eo18,_⟩:=Kd.Q_slice HO_0.out
      subst eo18
      go_wp2_with (first|((with_reducible refine gate_callee (f:=64) rfl ?_);refine goesL_ (some 26) rfl rfl Tryd.func64 (by kernel_rfl) rfl #[.slice Ao18 l0.length co18,.agg #[.int .i64 a1_2,.int .i64 a1_3]] rfl lens ?_;(with_reducible refine (spec_l3Out.calls kj3 (fun k_=>some k_ = (.slice Ao18 l0.length co18 : Value).ownBlock) (.slice Ao18 l0.length co18) l0 a1_2 a1_3 t355 t358 true w0 _ ?side1 ?side2 A12.out).mono ?_);(case side1=>repeat (first|(with_reducible first|exact HB.out|apply l1_|apply l2_|apply l3_|refine l4_ ?_ GE353.out)|exact HB.out));(case side2=>exact Kd.Q_tight rfl HO_0.out);rintro e w19 ⟨v356,rfl,ho0,hb,hkp⟩;refine ⟨_,rfl,?_⟩;have n0_:=m_ (blk_kept (puB BK353.out) hkp (fun hs_=>(fun e_=>(Kd.Q_ne HO_0.out BK353.out (by decide)) e_) hs_));have n1_:=m_ (Kd.Q_mono (ok':=fun k_=>(P0_ k_ ∨ w.heap.size ≤ k_)) ho0 (fun k_ hk_=>Or.elim hk_ (fun hs_=>(HO_0.out.1 k_ (hs_).symm)) (fun hn_=>(.inr (Nat.le_trans (by first|exact HK.out.1|exact (show Kept w _ (fun k_=>P0_ k_) from by repeat (first|(with_reducible first|exact HK.out|apply Kept.alloc|apply Kept.drewN|apply Kept.drew|refine Kept.setCell ?_ (.inr GW353.out) _)|exact HK.out)).1) hn_)))));have n2_:=m_ (Kept.then_ (S:=(fun k_=>P0_ k_)) (by repeat (first|(with_reducible first|exact HK.out|apply Kept.alloc|apply Kept.drewN|apply Kept.drew|refine Kept.setCell ?_ (.inr GW353.out) _)|exact HK.out)) hkp (fun k_ hs_=>(fun e_=>(HO_0.out.1 k_ e_.symm)) hs_));have n3_:=m_ (hb);revert n0_ n1_ n2_ n3_;clear BK353 HK HB HO_0;intro BK353 HO357 HK HB;(try clear hb);(try clear hkp);(try clear ho0))|((with_reducible refine gate_callee (f:=67) rfl ?_);refine goesL_ (some 37) rfl rfl Tryd.func67 (by kernel_rfl) rfl #[.agg #[.int .i64 9,.int .i64 t358]] rfl lens ?_;(with_reducible refine (spec_EndText.calls kj3 9 t358 t360 _ A14.out).mono ?_);rintro e w20 ⟨rfl,hb⟩;refine ⟨_,rfl,?_⟩;have n0_:=m_ (Kd.Q_below (puQ HO357.out) hb);have n1_:=m_ (blk_below (g:=gb353) (o:=.cells #[.int .i64 a1_0,.bool a1_1,.int .i64 a1_2,.int .i64 a1_3] 45 (0,0)) (puB BK353.out) hb);have n2_:=m_ (Kept.below (S:=(fun k_=>P0_ k_)) (by repeat (first|(with_reducible first|exact HK.out|apply Kept.alloc|apply Kept.drewN|apply Kept.drew|refine Kept.setCell ?_ (.inr GW353.out) _)|exact HK.out)) hb);have n3_:=m_ (l5_ (puM HB.out GE353.out) hb);revert n0_ n1_ n2_ n3_;clear HO357 BK353 HK HB;intro HO357 BK353 HK HB;(try clear hb);(try clear hb2);(try clear hk);(try clear hi)))
      go_ret2
      exact ⟨_,eqs,puQ HO357.out,puM HB.out GE353.out,by repeat (first|(with_reducible first|exact HK.out|apply Kept.alloc|apply Kept.drewN|apply Kept.drew|refine Kept.setCell ?_ (.inr GW353.out) _)|exact HK.out)⟩
     ·rw [if_neg c16] at H
      exact absurd H (by simp)
    ·replace c13:=Bool.eq_false_iff.mpr c13
     subst c13
     have H1 : (some (t355,a2)) = some (r1,r2):=by rw [if_neg (show ¬ (false = true) by decide)] at H;exact H
     clear H
     have H:=H1
     clear H1
     simp only [Option.some.injEq,Prod.mk.injEq] at H
     obtain ⟨rfl,rfl⟩:=H
     have hcz21_0 : wc.cell? ⟨gb353,0,none⟩ = some (.int .i64 a1_0):=(c_ BK353.out 0).trans rfl
     have hcz21_1 : wc.cell? ⟨gb353,1,none⟩ = some (.bool a1_1):=(c_ BK353.out 1).trans rfl
     have hcz21_2 : wc.cell? ⟨gb353,2,none⟩ = some (.int .i64 a1_2):=(c_ BK353.out 2).trans rfl
     have hcz21_3 : wc.cell? ⟨gb353,3,none⟩ = some (.int .i64 a1_3):=(c_ BK353.out 3).trans rfl
     obtain ⟨Ao22,co22,eo22,_⟩:=Kd.Q_slice HO_0.out
     subst eo22
     go_wp2_with (first|((with_reducible refine gate_callee (f:=64) rfl ?_);refine goesL_ (some 26) rfl rfl Tryd.func64 (by kernel_rfl) rfl #[.slice Ao22 l0.length co22,.agg #[.int .i64 a1_2,.int .i64 a1_3]] rfl lens ?_;(with_reducible refine (spec_l3Out.calls2 kj3 (fun k_=>some k_ = (.slice Ao22 l0.length co22 : Value).ownBlock) (.slice Ao22 l0.length co22) l0 a1_2 a1_3 t355 t358 false w0 _ ?side1 ?side2 A12.out).mono ?_);(case side1=>repeat (first|(with_reducible first|exact HB.out|apply l1_|apply l2_|apply l3_|refine l4_ ?_ GE353.out)|exact HB.out));(case side2=>exact Kd.Q_tight rfl HO_0.out);rintro e w23 ⟨v356,rfl,ho0,hb,hkp,hv_⟩;obtain rfl:=hv_ rfl;refine ⟨_,rfl,?_⟩;have n0_:=m_ (blk_kept (puB BK353.out) hkp (fun hs_=>(fun e_=>(Kd.Q_ne HO_0.out BK353.out (by decide)) e_) hs_));have n1_:=m_ (Kd.Q_mono (ok':=fun k_=>(P0_ k_ ∨ w.heap.size ≤ k_)) ho0 (fun k_ hk_=>Or.elim hk_ (fun hs_=>(HO_0.out.1 k_ (hs_).symm)) (fun hn_=>(.inr (Nat.le_trans (by first|exact HK.out.1|exact (show Kept w _ (fun k_=>P0_ k_) from by repeat (first|(with_reducible first|exact HK.out|apply Kept.alloc|apply Kept.drewN|apply Kept.drew|refine Kept.setCell ?_ (.inr GW353.out) _)|exact HK.out)).1) hn_)))));have n2_:=m_ (Kept.then_ (S:=(fun k_=>P0_ k_)) (by repeat (first|(with_reducible first|exact HK.out|apply Kept.alloc|apply Kept.drewN|apply Kept.drew|refine Kept.setCell ?_ (.inr GW353.out) _)|exact HK.out)) hkp (fun k_ hs_=>(fun e_=>(HO_0.out.1 k_ e_.symm)) hs_));have n3_:=m_ (hb);revert n0_ n1_ n2_ n3_;clear BK353 HK HB HO_0;intro BK353 HO357 HK HB;(try clear hb);(try clear hkp);(try clear ho0)))
     go_ret2
     exact ⟨_,eqs,puQ HO357.out,puM HB.out GE353.out,by repeat (first|(with_reducible first|exact HK.out|apply Kept.alloc|apply Kept.drewN|apply Kept.drew|refine Kept.setCell ?_ (.inr GW353.out) _)|exact HK.out)⟩

/-! ### spec_l3In: function 82 -/
def spec_l3In.f (l0 : List (S98)) (a1 : Int) : Option (Int × Int × Bool) := (spec_l6In.f (wrap64 (a1 - 10)) 0 (wrap64 ((l0.length : Int) - 1))).bind fun t362 => (if t362 = true then (if 0 ≤ (wrap64 (a1 - 10)) then (if (wrap64 (a1 - 10)) < (l0.length : Int) then (some ((rd_T98 l0 (wrap64 (a1 - 10))).f1.f0, (rd_T98 l0 (wrap64 (a1 - 10))).f1.f1, true)) else (none)) else (none)) else (some (0, 0, false)))
theorem spec_l3In.calls (A0 : Option Addr) (c0 : Nat) (l0 : List (S98)) (a1 : Int) (r1 : Int) (r2 : Int) (r3 : Bool) (w : World) (hr0 : Kd.C k98 w A0 l0.length l0) (hc0 : l0.length ≤ c0) (h : spec_l3In.f l0 a1 = some (r1, r2, r3)) :
  Calls Tryd.prog 82 #[.slice A0 l0.length c0,.int .i64 a1] w fun e w'=>e = .returned (.tuple #[.agg #[.int .i64 r1,.int .i64 r2],.bool r3]) ∧ Below w.heap.size w w':=by
 have hu43:=Tryd.underlying43
 have HR0:=m_ hr0
 have HC0:=m_ hc0
 clear hr0 hc0
 have HB:=m_ (Below.refl w.heap.size w)
 have H : ((spec_l6In.f (wrap64 (a1 - 10)) 0 (wrap64 ((l0.length : Int) - 1))).bind fun t362=>(if t362 = true then (if 0 ≤ (wrap64 (a1 - 10)) then (if (wrap64 (a1 - 10)) < (l0.length : Int) then (some ((rd_T98 l0 (wrap64 (a1 - 10))).f1.f0,(rd_T98 l0 (wrap64 (a1 - 10))).f1.f1,true)) else (none)) else (none)) else (some (0,0,false)))) = some (r1,r2,r3):=h
 clear h
 replace H:=Option.bind_eq_some_iff.mp H
 obtain ⟨t362,A30,H⟩:=H
 replace H : (if t362 = true then (if 0 ≤ (wrap64 (a1 - 10)) then (if (wrap64 (a1 - 10)) < (l0.length : Int) then (some ((rd_T98 l0 (wrap64 (a1 - 10))).f1.f0,(rd_T98 l0 (wrap64 (a1 - 10))).f1.f1,true)) else (none)) else (none)) else (some (0,0,false))) = some (r1,r2,r3):=H
 have A3:=m_ A30
 clear A30
 by_cases c4 : t362 = true
 ·subst c4
  have H1 : (if 0 ≤ (wrap64 (a1 - 10)) then (if (wrap64 (a1 - 10)) < (l0.length : Int) then (some ((rd_T98 l0 (wrap64 (a1 - 10))).f1.f0,(rd_T98 l0 (wrap64 (a1 - 10))).f1.f1,true)) else (none)) else (none)) = some (r1,r2,r3):=by rw [if_pos rfl] at H;exact H
  clear H
  have H:=H1
  clear H1
  obtain ⟨ji5,hji5⟩ : ∃ j_ : Int,(wrap64 (a1 - 10)) = j_:=⟨_,rfl⟩
  replace H : (if 0 ≤ (ji5) then (if (ji5) < (l0.length : Int) then (some ((rd_T98 l0 (ji5)).f1.f0,(rd_T98 l0 (ji5)).f1.f1,true)) else (none)) else (none)) = some (r1,r2,r3):=by first|(rw [hji5] at H;exact H)|(simp only [hji5] at H ⊢;exact H)
  (try rw [hji5] at A3)
  have hji5w : (IntKind.i64.wrap (a1 - 10)) = ji5:=(i64_w _).trans hji5
  by_cases c6 : 0 ≤ (ji5)
  ·rw [if_pos c6] at H
   have c6b0 : decide (0 ≤ (ji5)) = true:=decide_eq_true c6
   clear c6
   by_cases c7 : (ji5) < (l0.length : Int)
   ·rw [if_pos c7] at H
    have c7b0 : decide ((ji5) < (l0.length : Int)) = true:=decide_eq_true c7
    clear c7
    simp only [Option.some.injEq,Prod.mk.injEq] at H
    obtain ⟨rfl,rfl,rfl⟩:=H
    go_enter Tryd.func82,Tryd.ntmps82
    go_wp2_with (first|((with_reducible refine gate_dst (N:=4) rfl ?_);refine box_event ?hg (N:=4) ?hd (cs:=#[.int .i64 0,.int .i64 0]) (t:=43) ?hr ?_;(case hd=>rfl);(case hg=>rfl);(case hr=>first|(go_simp;done)|(go_simp;rfl));intro gb361 hg w8 hbox hb;have n0_:=m_ (l5_ (puL HB.out) hb);have n1_:=m_ (hbox);have n2_:=m_ ((by rw [hg];exact (l6_ (puL HB.out)) : w.heap.size ≤ gb361));have n3_:=m_ ((by rw [hg];exact (l6_ (puL HB.out)) : w.heap.size ≤ gb361));revert n0_ n1_ n2_ n3_;clear HB;intro HB BK361 GW361 GE361;clear hb hbox hg)|((with_reducible refine gate_callee (f:=31) rfl ?_);refine goesL_ (some 13) rfl rfl Tryd.func31 (by kernel_rfl) rfl #[.int .i64 ji5,.int .i64 0,.int .i64 (wrap64 ((l0.length : Int) - 1))] rfl (by (try simp only [List.map_toArray,List.map_cons,List.map_nil]);first|done|(simp only [hji5];rfl)|rfl|(simp only [List.length_drop,List.length_take];rfl)) ?_;(with_reducible refine (spec_l6In.calls ji5 0 (wrap64 ((l0.length : Int) - 1)) true _ A3.out).mono ?_);rintro e w' ⟨rfl,⟨nd,rfl⟩⟩;refine ⟨_,rfl,?_⟩;(try (rw [drewN_self w8];generalize hq_ : World.drewN w8 _ = w8;have n0_ : Aside0 (w8.heap[gb361]? = some (.cells #[.int .i64 0,.int .i64 0] 43 (0,0))):=⟨by rw [← hq_];exact (puB BK361.out)⟩;have n1_ : Aside0 (Below w.heap.size w w8):=⟨by rw [← hq_];exact (puM HB.out GE361.out)⟩;clear BK361 HB hq_;have BK361:=n0_;have HB:=n1_;clear n0_ n1_));have p363 : 0 ≤ ((ji5) : Int):=of_decide_eq_true asm;have q363 : (ji5) < (l0.length : Int):=of_decide_eq_true asm;obtain ⟨ad363,e363,hx363_0,hx363_1,hx363_2⟩:=at_T98 HR0.out (ji5) p363 q363;cases e363;replace hx363_0:=(HB.out.cell (World.block_lt_of_cell? w _ hx363_0)).trans hx363_0;replace hx363_1:=(HB.out.cell (World.block_lt_of_cell? w _ hx363_1)).trans hx363_1;replace hx363_2:=(HB.out.cell (World.block_lt_of_cell? w _ hx363_2)).trans hx363_2;replace p363:=eq_true p363;replace q363:=eq_true q363;have hcz9_0 : w8.cell? ⟨gb361,0,none⟩ = some (.int .i64 0):=(c_ BK361.out 0).trans rfl;have hcz9_1 : w8.cell? ⟨gb361,1,none⟩ = some (.int .i64 0):=(c_ BK361.out 1).trans rfl;have hfz9_0:=f_ BK361.out 0;have hfz9_1:=f_ BK361.out 1))
    refine bodyPost_ret (results_ct rfl _ _ gb361 43 #[.int .i64 ((rd_T98 l0 (ji5)).f1.f0),.int .i64 ((rd_T98 l0 (ji5)).f1.f1)] (0,0) _ rfl (by (with_reducible repeat first|apply b1_|apply b2_|apply b3_);refine blk_put (cs:=#[.int .i64 ((rd_T98 l0 (ji5)).f1.f0),.int .i64 0]) ?_ 1 _ rfl;(with_reducible repeat first|apply b1_|apply b2_|apply b3_);refine blk_put (cs:=#[.int .i64 0,.int .i64 0]) ?_ 0 _ rfl;(with_reducible repeat first|apply b1_|apply b2_|apply b3_);exact BK361.out) Tryd.underlying43 rfl (by kernel_rfl)) rfl ?_
    exact ⟨by first|rfl|(simp [e1_,e2_] <;> rfl)|(simp only [← hji5];first|rfl|(simp [e1_,e2_] <;> rfl))|(simp [*,e1_,e2_] <;> rfl)|(simp [e1_,e2_,pk_empty1,pk_empty2];done)|(simp [*,e1_,e2_,pk_empty1,pk_empty2];done),puM HB.out GE361.out⟩
   ·rw [if_neg c7] at H
    exact absurd H (by simp)
  ·rw [if_neg c6] at H
   exact absurd H (by simp)
 ·replace c4:=Bool.eq_false_iff.mpr c4
  subst c4
  have H1 : (some (0,0,false)) = some (r1,r2,r3):=by rw [if_neg (show ¬ (false = true) by decide)] at H;exact H
  clear H
  have H:=H1
  clear H1
  simp only [Option.some.injEq,Prod.mk.injEq] at H
  obtain ⟨rfl,rfl,rfl⟩:=H
  go_enter Tryd.func82,Tryd.ntmps82
  go_wp2_with (first|((with_reducible refine gate_dst (N:=4) rfl ?_);refine box_event ?hg (N:=4) ?hd (cs:=#[.int .i64 0,.int .i64 0]) (t:=43) ?hr ?_;(case hd=>rfl);(case hg=>rfl);(case hr=>first|(go_simp;done)|(go_simp;rfl));intro gb361 hg w10 hbox hb;have n0_:=m_ (l5_ (puL HB.out) hb);have n1_:=m_ (hbox);have n2_:=m_ ((by rw [hg];exact (l6_ (puL HB.out)) : w.heap.size ≤ gb361));have n3_:=m_ ((by rw [hg];exact (l6_ (puL HB.out)) : w.heap.size ≤ gb361));revert n0_ n1_ n2_ n3_;clear HB;intro HB BK361 GW361 GE361;clear hb hbox hg)|((with_reducible refine gate_callee (f:=31) rfl ?_);refine goesL_ (some 13) rfl rfl Tryd.func31 (by kernel_rfl) rfl #[.int .i64 (wrap64 (a1 - 10)),.int .i64 0,.int .i64 (wrap64 ((l0.length : Int) - 1))] rfl lens ?_;(with_reducible refine (spec_l6In.calls (wrap64 (a1 - 10)) 0 (wrap64 ((l0.length : Int) - 1)) false _ A3.out).mono ?_);rintro e w' ⟨rfl,⟨nd,rfl⟩⟩;refine ⟨_,rfl,?_⟩;(try (rw [drewN_self w10];generalize hq_ : World.drewN w10 _ = w10;have n0_ : Aside0 (w10.heap[gb361]? = some (.cells #[.int .i64 0,.int .i64 0] 43 (0,0))):=⟨by rw [← hq_];exact (puB BK361.out)⟩;have n1_ : Aside0 (Below w.heap.size w w10):=⟨by rw [← hq_];exact (puM HB.out GE361.out)⟩;clear BK361 HB hq_;have BK361:=n0_;have HB:=n1_;clear n0_ n1_));have hcz11_0 : w10.cell? ⟨gb361,0,none⟩ = some (.int .i64 0):=(c_ BK361.out 0).trans rfl;have hcz11_1 : w10.cell? ⟨gb361,1,none⟩ = some (.int .i64 0):=(c_ BK361.out 1).trans rfl;have hfz11_0:=f_ BK361.out 0;have hfz11_1:=f_ BK361.out 1))
  refine bodyPost_ret (results_ct rfl _ _ gb361 43 #[.int .i64 0,.int .i64 0] (0,0) _ rfl (by (with_reducible repeat first|apply b1_|apply b2_|apply b3_);refine blk_put (cs:=#[.int .i64 0,.int .i64 0]) ?_ 1 _ rfl;(with_reducible repeat first|apply b1_|apply b2_|apply b3_);refine blk_put (cs:=#[.int .i64 0,.int .i64 0]) ?_ 0 _ rfl;(with_reducible repeat first|apply b1_|apply b2_|apply b3_);exact BK361.out) Tryd.underlying43 rfl (by kernel_rfl)) rfl ?_
  exact ⟨eqs,puM HB.out GE361.out⟩

end Go.Proofs.YtkcjmmhleepjeaaDoor.A
