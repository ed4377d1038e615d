-- Printed by myprint.py (wip/tools) out of the translation. Not trusted: Lean checks it.
import Derived.Test.YtkcjmmhleepjeaaGreatDoorAx0
import Derived.Test.YtkcjmmhleepjeaaGreatDoorAx2
import Derived.Test.YtkcjmmhleepjeaaGreatDoorAx3
import Derived.Test.YtkcjmmhleepjeaaGreatDoorAx4
import Derived.Test.YtkcjmmhleepjeaaGreatDoorAx5
namespace Go.Proofs.YtkcjmmhleepjeaaGreatDoor.A
open Go.RowKit Go.Proofs.YtkcjmmhleepjeaaGreatDoorW.PrintWords Go.Proofs.YtkcjmmhleepjeaaGreatDoorW.PrintLast Go.Proofs.YtkcjmmhleepjeaaGreatDoorW.PrintMore
attribute [local go_sem] max2_int min2_int max_two min_two max_three min_three max_four min_four
set_option linter.unusedVariables false
set_option linter.unusedSimpArgs false

/-! ### spec_l71Text: function 43 -/
def spec_l71Text.l0 : Nat → Int → ByteArray → Int → List Int → Int → Option (ByteArray × Int)
 | 0, _, _, _, _, _ => none
 | k + 1, x1, x5, x6, x1000, x1001 => if x6 > 0 then ((spec_l6Rd_of.f k x1000 x1001 (([(⟨#[97]⟩ : ByteArray), (⟨#[98, 99]⟩ : ByteArray), (⟨#[64]⟩ : ByteArray), (⟨#[64, 49]⟩ : ByteArray), (⟨#[59]⟩ : ByteArray), (⟨#[58, 53]⟩ : ByteArray), (⟨#[120, 49]⟩ : ByteArray), (⟨#[64, 64]⟩ : ByteArray), (⟨#[64, 49, 58]⟩ : ByteArray), (⟨#[55]⟩ : ByteArray)] : List ByteArray))).bind fun bt202 => ((spec_l6Rd_pick.f k x1000 bt202.2 5).bind fun bt204 => (if bt204.1 < 3 then ((spec_l71End.f k x1000 bt204.2).bind fun bt206 => ((spec_EndText.f k bt206.1 bt206.2.1).bind fun t209 => (if 1 + t209.size ≤ 9223372036854775807 then (if 1 + t209.size + 1 ≤ 9223372036854775807 then (if (wrap64 ((x5.size : Int) + (1 + (t209.size : Int) + 1))) ≤ x1 then (if x5.size + (1 + t209.size + 1) ≤ 9223372036854775807 then (spec_l71Text.l0 k x1 (x5 ++ (((⟨#[64]⟩ : ByteArray) ++ t209) ++ (⟨#[59]⟩ : ByteArray))) (wrap64 (x6 - 1)) x1000 bt206.2.2) else (none)) else (spec_l71Text.l0 k x1 x5 (wrap64 (x6 - 1)) x1000 bt206.2.2)) else (none)) else (none)))) else (if (wrap64 ((x5.size : Int) + (bt202.1.size : Int))) ≤ x1 then (if x5.size + bt202.1.size ≤ 9223372036854775807 then (spec_l71Text.l0 k x1 (x5 ++ bt202.1) (wrap64 (x6 - 1)) x1000 bt204.2) else (none)) else (spec_l71Text.l0 k x1 x5 (wrap64 (x6 - 1)) x1000 bt204.2))))) else (some (x5, x1001))
def spec_l71Text.f (k : Nat) (s0_0 : List Int) (s0_1 : Int) (a1 : Int) : Option (ByteArray × Int) := (spec_l6Rd_pick.f k s0_0 s0_1 7).bind fun bt197 => (spec_l71Text.l0 k a1 (⟨#[]⟩ : ByteArray) bt197.1 s0_0 bt197.2)
theorem spec_l71Text.mono_l : ∀ k, (∀ y0 y1 y2 y3 y4, LeO (spec_l71Text.l0 k y0 y1 y2 y3 y4) (spec_l71Text.l0 (k + 1) y0 y1 y2 y3 y4))
 | 0 => fun _ _ _ _ _ r h => by simp [spec_l71Text.l0] at h
 | k + 1 => by
  have ih0:=spec_l71Text.mono_l k
  ·intro y0 y1 y2 y3 y4
   unfold spec_l71Text.l0
   exact leo5 ih0 spec_EndText.mono spec_l6Rd_of.mono spec_l6Rd_pick.mono spec_l71End.mono
theorem spec_l71Text.mono : ∀ a0 a1 a2 k, LeO (spec_l71Text.f k a0 a1 a2) (spec_l71Text.f (k + 1) a0 a1 a2) := by
 intro a0 a1 a2 k
 have ih0:=spec_l71Text.mono_l k
 unfold spec_l71Text.f
 exact leo5 ih0 spec_EndText.mono spec_l6Rd_of.mono spec_l6Rd_pick.mono spec_l71End.mono
set_option maxHeartbeats 8000000 in
set_option maxRecDepth 100000 in
theorem spec_l71Text.calls (k : Nat) (g : Nat) (s0_0 : List Int) (s0_1 : Int) (a1 : Int) (r1 : ByteArray) (r2 : Int) (w0 w : World) (hI : IsS56 w0 w g s0_0 s0_1) (hB : Below w0.heap.size w0 w) (h : spec_l71Text.f k s0_0 s0_1 a1 = some (r1, r2)) :
  Calls Tryz.prog 43 #[.pointer (some ⟨g,0,none⟩),.int .i64 a1] w fun e w'=>e = .returned (.string r1) ∧ IsS56 w0 w' g s0_0 r2 ∧ Below w0.heap.size w0 w' ∧ KeepBut w w' g none:=by
 have HI0:=m_ hI
 have HK:=m_ (KeepBut.refl w g none)
 have HL:=m_ hB.size
 clear hI
 have HW0:=m_ hB.size
 have HB:=m_ hB
 clear hB
 have H : ((spec_l6Rd_pick.f k s0_0 s0_1 7).bind fun bt197=>(spec_l71Text.l0 k a1 (⟨#[]⟩ : ByteArray) bt197.1 s0_0 bt197.2)) = some (r1,r2):=h
 clear h
 replace H:=Option.bind_eq_some_iff.mp H
 obtain ⟨⟨t197,t198⟩,A30,H⟩:=H
 replace H : (spec_l71Text.l0 k a1 (⟨#[]⟩ : ByteArray) t197 s0_0 t198) = some (r1,r2):=H
 have A3:=m_ A30
 clear A30
 have H':=m_ H
 clear H
 go_enter Tryz.func43,Tryz.ntmps43
 go_wp2_with (first|((with_reducible refine gate_callee (f:=24) rfl ?_);refine goesL_ (some 9) rfl rfl Tryz.func24 (by kernel_rfl) rfl #[.pointer (some ⟨g,0,none⟩),.int .i64 7] rfl lens ?_;(with_reducible refine (spec_l6Rd_pick.calls k g s0_0 s0_1 7 t197 t198 w0 _ ?side1 ?side2 A3.out).mono ?_);(case side1=>repeat (first|(with_reducible first|exact HI0.out|apply IsS56.alloc|apply IsS56.drewN|apply IsS56.drew|apply IsS56.set_1)|exact HI0.out));(case side2=>exact puM HB.out (IsS56.ge HI0.out));rintro e w4 ⟨rfl,hi,hb,hk⟩;refine ⟨_,rfl,?_⟩;have n0_:=m_ (KeepBut.trans (puK HK.out) hk (.inl rfl));have n1_:=m_ (hb);have n2_:=m_ (hi);revert n0_ n1_ n2_;clear HK HB HI0;intro HK HB HI0;(try clear hb);(try clear hb2);(try clear hk);(try clear hi)))
 go_loopg [5,6] k (fun kq v5 v6 w'=>∃ (x5_1 : ByteArray) (x6_1 : Int) (x1001_1 : Int),v5 = .string x5_1 ∧ v6 = .int .i64 x6_1 ∧ Aside0 (spec_l71Text.l0 kq a1 x5_1 x6_1 s0_0 x1001_1 = some (r1,r2)) ∧ Aside0 (kq ≤ k) ∧ Aside0 (IsS56 w0 w' g s0_0 x1001_1) ∧ Aside0 (KeepBut w w' g none) ∧ Aside0 (Below w0.heap.size w0 w'))
 case atStart=>exact ⟨((⟨#[]⟩ : ByteArray)),(t197),(t198),(by first|rfl|(simp;done)|(simp [*];done)),(by first|rfl|(simp;done)|(simp [*];done)),H',⟨Nat.le_refl _⟩,⟨by repeat (first|(with_reducible first|exact HI0.out|apply IsS56.alloc|apply IsS56.drewN|apply IsS56.drew|apply IsS56.set_1)|exact HI0.out)⟩,⟨puK HK.out⟩,⟨puM HB.out (IsS56.ge HI0.out)⟩⟩
 case round =>
  clear H'
  try clear c2
  try clear p2
  try clear c4
  obtain ⟨x5_1,x6_1,x1001_1,rfl,rfl,HA,HK1,HI0,HK,HB⟩:=hrel
  cases gk with
  | zero => exact absurd HA.out (by simp [spec_l71Text.l0])
  | succ k1 =>
   have H:=HA.out
   clear HA
   simp only [spec_l71Text.l0] at H
   by_cases c5 : x6_1 > 0
   ·rw [if_pos c5] at H
    have c5b0 : decide (0 < x6_1) = true:=decide_eq_true c5
    clear c5
    obtain ⟨y199,hy199⟩ : ∃ y_ : List ByteArray,y_ = (([(⟨#[97]⟩ : ByteArray),(⟨#[98,99]⟩ : ByteArray),(⟨#[64]⟩ : ByteArray),(⟨#[64,49]⟩ : ByteArray),(⟨#[59]⟩ : ByteArray),(⟨#[58,53]⟩ : ByteArray),(⟨#[120,49]⟩ : ByteArray),(⟨#[64,64]⟩ : ByteArray),(⟨#[64,49,58]⟩ : ByteArray),(⟨#[55]⟩ : ByteArray)] : List ByteArray)):=⟨_,rfl⟩
    replace H : ((spec_l6Rd_of.f k1 s0_0 x1001_1 y199).bind fun bt202=>((spec_l6Rd_pick.f k1 s0_0 bt202.2 5).bind fun bt204=>(if bt204.1 < 3 then ((spec_l71End.f k1 s0_0 bt204.2).bind fun bt206=>((spec_EndText.f k1 bt206.1 bt206.2.1).bind fun t209=>(if 1 + t209.size ≤ 9223372036854775807 then (if 1 + t209.size + 1 ≤ 9223372036854775807 then (if (wrap64 ((x5_1.size : Int) + (1 + (t209.size : Int) + 1))) ≤ a1 then (if x5_1.size + (1 + t209.size + 1) ≤ 9223372036854775807 then (spec_l71Text.l0 k1 a1 (x5_1 ++ (((⟨#[64]⟩ : ByteArray) ++ t209) ++ (⟨#[59]⟩ : ByteArray))) (wrap64 (x6_1 - 1)) s0_0 bt206.2.2) else (none)) else (spec_l71Text.l0 k1 a1 x5_1 (wrap64 (x6_1 - 1)) s0_0 bt206.2.2)) else (none)) else (none)))) else (if (wrap64 ((x5_1.size : Int) + (bt202.1.size : Int))) ≤ a1 then (if x5_1.size + bt202.1.size ≤ 9223372036854775807 then (spec_l71Text.l0 k1 a1 (x5_1 ++ bt202.1) (wrap64 (x6_1 - 1)) s0_0 bt204.2) else (none)) else (spec_l71Text.l0 k1 a1 x5_1 (wrap64 (x6_1 - 1)) s0_0 bt204.2))))) = some (r1,r2):=by first|(rw [hy199];with_reducible exact H)|(have H2_:=(Option.bind_some _ _).symm.trans H;rw [hy199];with_reducible exact H2_)|(have H2_:=(Option.bind_some _ _).symm.trans H;with_reducible exact H2_)|with_reducible exact H|(rw [hy199];exact H)|exact H
    have Ny199:=m_ hy199
    clear hy199
    replace H:=Option.bind_eq_some_iff.mp H
    obtain ⟨⟨t202,t203⟩,A60,H⟩:=H
    replace H : ((spec_l6Rd_pick.f k1 s0_0 t203 5).bind fun bt204=>(if bt204.1 < 3 then ((spec_l71End.f k1 s0_0 bt204.2).bind fun bt206=>((spec_EndText.f k1 bt206.1 bt206.2.1).bind fun t209=>(if 1 + t209.size ≤ 9223372036854775807 then (if 1 + t209.size + 1 ≤ 9223372036854775807 then (if (wrap64 ((x5_1.size : Int) + (1 + (t209.size : Int) + 1))) ≤ a1 then (if x5_1.size + (1 + t209.size + 1) ≤ 9223372036854775807 then (spec_l71Text.l0 k1 a1 (x5_1 ++ (((⟨#[64]⟩ : ByteArray) ++ t209) ++ (⟨#[59]⟩ : ByteArray))) (wrap64 (x6_1 - 1)) s0_0 bt206.2.2) else (none)) else (spec_l71Text.l0 k1 a1 x5_1 (wrap64 (x6_1 - 1)) s0_0 bt206.2.2)) else (none)) else (none)))) else (if (wrap64 ((x5_1.size : Int) + (t202.size : Int))) ≤ a1 then (if x5_1.size + t202.size ≤ 9223372036854775807 then (spec_l71Text.l0 k1 a1 (x5_1 ++ t202) (wrap64 (x6_1 - 1)) s0_0 bt204.2) else (none)) else (spec_l71Text.l0 k1 a1 x5_1 (wrap64 (x6_1 - 1)) s0_0 bt204.2)))) = some (r1,r2):=H
    have A6:=m_ A60
    clear A60
    replace H:=Option.bind_eq_some_iff.mp H
    obtain ⟨⟨t204,t205⟩,A70,H⟩:=H
    replace H : (if t204 < 3 then ((spec_l71End.f k1 s0_0 t205).bind fun bt206=>((spec_EndText.f k1 bt206.1 bt206.2.1).bind fun t209=>(if 1 + t209.size ≤ 9223372036854775807 then (if 1 + t209.size + 1 ≤ 9223372036854775807 then (if (wrap64 ((x5_1.size : Int) + (1 + (t209.size : Int) + 1))) ≤ a1 then (if x5_1.size + (1 + t209.size + 1) ≤ 9223372036854775807 then (spec_l71Text.l0 k1 a1 (x5_1 ++ (((⟨#[64]⟩ : ByteArray) ++ t209) ++ (⟨#[59]⟩ : ByteArray))) (wrap64 (x6_1 - 1)) s0_0 bt206.2.2) else (none)) else (spec_l71Text.l0 k1 a1 x5_1 (wrap64 (x6_1 - 1)) s0_0 bt206.2.2)) else (none)) else (none)))) else (if (wrap64 ((x5_1.size : Int) + (t202.size : Int))) ≤ a1 then (if x5_1.size + t202.size ≤ 9223372036854775807 then (spec_l71Text.l0 k1 a1 (x5_1 ++ t202) (wrap64 (x6_1 - 1)) s0_0 t205) else (none)) else (spec_l71Text.l0 k1 a1 x5_1 (wrap64 (x6_1 - 1)) s0_0 t205))) = some (r1,r2):=H
    have A7:=m_ A70
    clear A70
    by_cases c8 : t204 < 3
    ·rw [if_pos c8] at H
     have c8b0 : decide (t204 < 3) = true:=decide_eq_true c8
     clear c8
     replace H:=Option.bind_eq_some_iff.mp H
     obtain ⟨⟨t206,t207,t208⟩,A90,H⟩:=H
     replace H : ((spec_EndText.f k1 t206 t207).bind fun t209=>(if 1 + t209.size ≤ 9223372036854775807 then (if 1 + t209.size + 1 ≤ 9223372036854775807 then (if (wrap64 ((x5_1.size : Int) + (1 + (t209.size : Int) + 1))) ≤ a1 then (if x5_1.size + (1 + t209.size + 1) ≤ 9223372036854775807 then (spec_l71Text.l0 k1 a1 (x5_1 ++ (((⟨#[64]⟩ : ByteArray) ++ t209) ++ (⟨#[59]⟩ : ByteArray))) (wrap64 (x6_1 - 1)) s0_0 t208) else (none)) else (spec_l71Text.l0 k1 a1 x5_1 (wrap64 (x6_1 - 1)) s0_0 t208)) else (none)) else (none))) = some (r1,r2):=H
     have A9:=m_ A90
     clear A90
     replace H:=Option.bind_eq_some_iff.mp H
     obtain ⟨t209,A100,H⟩:=H
     have A10:=m_ A100
     clear A100
     by_cases c11 : 1 + t209.size ≤ 9223372036854775807
     rotate_left
     ·rw [if_neg c11] at H
      exact absurd H (by simp)
     rw [if_pos c11] at H
     have c11b0:=eq_true c11
     have c11b1:=decide_eq_true c11
     try have c11b2 : (9223372036854775807 < 1 + t209.size) = False:=eq_false (Nat.not_lt.2 c11)
     by_cases c12 : 1 + t209.size + 1 ≤ 9223372036854775807
     rotate_left
     ·rw [if_neg c12] at H
      exact absurd H (by simp)
     rw [if_pos c12] at H
     have c12b0:=eq_true c12
     have c12b1:=decide_eq_true c12
     try have c12b2 : (9223372036854775807 < 1 + t209.size + 1) = False:=eq_false (Nat.not_lt.2 c12)
     by_cases c13 : (wrap64 ((x5_1.size : Int) + (1 + (t209.size : Int) + 1))) ≤ a1
     ·rw [if_pos c13] at H
      have c13b0 : decide ((wrap64 ((x5_1.size : Int) + (1 + (t209.size : Int) + 1))) ≤ a1) = true:=decide_eq_true c13
      clear c13
      by_cases c14 : x5_1.size + (1 + t209.size + 1) ≤ 9223372036854775807
      ·rw [if_pos c14] at H
       have c14b0:=eq_true c14
       have c14b1:=decide_eq_true c14
       try have c14b2 : (9223372036854775807 < x5_1.size + (1 + t209.size + 1)) = False:=eq_false (Nat.not_lt.2 c14)
       clear c14
       have H':=m_ H
       clear H
       go_wp2_with (first|((with_reducible refine gate_dst (N:=15) rfl ?_);refine Kd.R_lit Kd.string _ 9 ?hg (N:=15) ?hd (xs:=([(⟨#[97]⟩ : ByteArray),(⟨#[98,99]⟩ : ByteArray),(⟨#[64]⟩ : ByteArray),(⟨#[64,49]⟩ : ByteArray),(⟨#[59]⟩ : ByteArray),(⟨#[58,53]⟩ : ByteArray),(⟨#[120,49]⟩ : ByteArray),(⟨#[64,64]⟩ : ByteArray),(⟨#[64,49,58]⟩ : ByteArray),(⟨#[55]⟩ : ByteArray)] : List ByteArray)) (inner:=[.string (⟨#[97]⟩ : ByteArray),.string (⟨#[98,99]⟩ : ByteArray),.string (⟨#[64]⟩ : ByteArray),.string (⟨#[64,49]⟩ : ByteArray),.string (⟨#[59]⟩ : ByteArray),.string (⟨#[58,53]⟩ : ByteArray),.string (⟨#[120,49]⟩ : ByteArray),.string (⟨#[64,64]⟩ : ByteArray),.string (⟨#[64,49,58]⟩ : ByteArray),.string (⟨#[55]⟩ : ByteArray)]) (ok:=fun _=>True) (okp:=fun _=>True) ?hr ?hp (fun _ hk=>hk) trivial (Below.refl _ _) (Nat.le_refl _) (by simp) ?_;(case hd=>rfl);(case hg=>rfl);(case hr=>first|(go_simp;done)|(go_simp;rfl));(case hp=>exact (Reps.one (show Kd.M Kd.string _ _ _ (⟨#[97]⟩ : ByteArray) [.string (⟨#[97]⟩ : ByteArray)] from rfl) (Reps.one (show Kd.M Kd.string _ _ _ (⟨#[98,99]⟩ : ByteArray) [.string (⟨#[98,99]⟩ : ByteArray)] from rfl) (Reps.one (show Kd.M Kd.string _ _ _ (⟨#[64]⟩ : ByteArray) [.string (⟨#[64]⟩ : ByteArray)] from rfl) (Reps.one (show Kd.M Kd.string _ _ _ (⟨#[64,49]⟩ : ByteArray) [.string (⟨#[64,49]⟩ : ByteArray)] from rfl) (Reps.one (show Kd.M Kd.string _ _ _ (⟨#[59]⟩ : ByteArray) [.string (⟨#[59]⟩ : ByteArray)] from rfl) (Reps.one (show Kd.M Kd.string _ _ _ (⟨#[58,53]⟩ : ByteArray) [.string (⟨#[58,53]⟩ : ByteArray)] from rfl) (Reps.one (show Kd.M Kd.string _ _ _ (⟨#[120,49]⟩ : ByteArray) [.string (⟨#[120,49]⟩ : ByteArray)] from rfl) (Reps.one (show Kd.M Kd.string _ _ _ (⟨#[64,64]⟩ : ByteArray) [.string (⟨#[64,64]⟩ : ByteArray)] from rfl) (Reps.one (show Kd.M Kd.string _ _ _ (⟨#[64,49,58]⟩ : ByteArray) [.string (⟨#[64,49,58]⟩ : ByteArray)] from rfl) (Reps.one (show Kd.M Kd.string _ _ _ (⟨#[55]⟩ : ByteArray) [.string (⟨#[55]⟩ : ByteArray)] from rfl) (Reps.none _ _))))))))))));intro v200 w15 ho16 hb hg_ hnew_;clear hg_ hnew_;(first|rw [← Ny199.out] at ho16|(simp only [Int.reduceToNat] at ho16;rw [← Ny199.out] at ho16));have n0_:=m_ (Kd.R_lower ho16 (keep_size (w:=w) (g:=g) (row:=none) (puK HK.out)));have n1_:=m_ (IsS56.below (by repeat (first|(with_reducible first|exact HI0.out|apply IsS56.alloc|apply IsS56.drewN|apply IsS56.drew|apply IsS56.set_1)|exact HI0.out)) hb);have n2_:=m_ (KeepBut.trans (puK HK.out) (KeepBut.of_below hb g none) (.inl rfl));have n3_:=m_ (l5_ (puM HB.out (IsS56.ge HI0.out)) hb);revert n0_ n1_ n2_ n3_;clear HI0 HK HB;intro HO201 HI0 HK HB;clear hb ho16;obtain ⟨Ao17,co17,eo17⟩:=Kd.R_slice HO201.out;subst eo17)|((with_reducible refine gate_callee (f:=45) rfl ?_);refine goesL_ (some 16) rfl rfl Tryz.func45 (by kernel_rfl) rfl #[.pointer (some ⟨g,0,none⟩),.slice Ao17 y199.length co17] rfl lens ?_;(with_reducible refine (spec_l6Rd_of.calls k1 g s0_0 x1001_1 _ _ y199 t202 t203 w0 _ ?side1 ?side2 ?side3 ?side4 ?side5 A6.out).mono ?_);(case side1=>repeat (first|(with_reducible first|exact HI0.out|apply IsS56.alloc|apply IsS56.drewN|apply IsS56.drew|apply IsS56.set_1)|exact HI0.out));(case side2=>exact puM HB.out (IsS56.ge HI0.out));(case side3=>exact puC (Kd.R_reads' HO201.out).2.2);(case side4=>exact (Kd.R_reads' HO201.out).2.1);(case side5=>exact far_slice (IsS56.own_ne HI0.out HO201.out (by decide)));rintro e w18 ⟨rfl,hi,hb,hk⟩;refine ⟨_,rfl,?_⟩;have n0_:=m_ (Kd.R_mono (Kd.R_keep (IsS56.apart (show IsS56 w0 _ g s0_0 x1001_1 from by repeat (first|(with_reducible first|exact HI0.out|apply IsS56.alloc|apply IsS56.drewN|apply IsS56.drew|apply IsS56.set_1)|exact HI0.out)) (puR HO201.out) (by decide)) hk (fun _ h=>h.2)) (fun _ h=>h.1));have n1_:=m_ (KeepBut.trans (puK HK.out) hk (.inl rfl));have n2_:=m_ (hb);have n3_:=m_ (hi);revert n0_ n1_ n2_ n3_;clear HO201 HK HB HI0;intro HO201 HK HB HI0;(try clear hb);(try clear hb2);(try clear hk);(try clear hi))|((with_reducible refine gate_callee (f:=24) rfl ?_);refine goesL_ (some 18) rfl rfl Tryz.func24 (by kernel_rfl) rfl #[.pointer (some ⟨g,0,none⟩),.int .i64 5] rfl lens ?_;(with_reducible refine (spec_l6Rd_pick.calls k1 g s0_0 t203 5 t204 t205 w0 _ ?side1 ?side2 A7.out).mono ?_);(case side1=>repeat (first|(with_reducible first|exact HI0.out|apply IsS56.alloc|apply IsS56.drewN|apply IsS56.drew|apply IsS56.set_1)|exact HI0.out));(case side2=>exact puM HB.out (IsS56.ge HI0.out));rintro e w19 ⟨rfl,hi,hb,hk⟩;refine ⟨_,rfl,?_⟩;have n0_:=m_ (Kd.R_mono (Kd.R_keep (IsS56.apart (show IsS56 w0 _ g s0_0 t203 from by repeat (first|(with_reducible first|exact HI0.out|apply IsS56.alloc|apply IsS56.drewN|apply IsS56.drew|apply IsS56.set_1)|exact HI0.out)) (puR HO201.out) (by decide)) hk (fun _ h=>h.2)) (fun _ h=>h.1));have n1_:=m_ (KeepBut.trans (puK HK.out) hk (.inl rfl));have n2_:=m_ (hb);have n3_:=m_ (hi);revert n0_ n1_ n2_ n3_;clear HO201 HK HB HI0;intro HO201 HK HB HI0;(try clear hb);(try clear hb2);(try clear hk);(try clear hi))|((with_reducible refine gate_callee (f:=55) rfl ?_);refine goesL_ (some 21) rfl rfl Tryz.func55 (by kernel_rfl) rfl #[.pointer (some ⟨g,0,none⟩)] rfl lens ?_;(with_reducible refine (spec_l71End.calls k1 g s0_0 t205 t206 t207 t208 w0 _ ?side1 ?side2 A9.out).mono ?_);(case side1=>repeat (first|(with_reducible first|exact HI0.out|apply IsS56.alloc|apply IsS56.drewN|apply IsS56.drew|apply IsS56.set_1)|exact HI0.out));(case side2=>exact puM HB.out (IsS56.ge HI0.out));rintro e w20 ⟨rfl,hi,hb,hk⟩;refine ⟨_,rfl,?_⟩;have n0_:=m_ (Kd.R_mono (Kd.R_keep (IsS56.apart (show IsS56 w0 _ g s0_0 t205 from by repeat (first|(with_reducible first|exact HI0.out|apply IsS56.alloc|apply IsS56.drewN|apply IsS56.drew|apply IsS56.set_1)|exact HI0.out)) (puR HO201.out) (by decide)) hk (fun _ h=>h.2)) (fun _ h=>h.1));have n1_:=m_ (KeepBut.trans (puK HK.out) hk (.inl rfl));have n2_:=m_ (hb);have n3_:=m_ (hi);revert n0_ n1_ n2_ n3_;clear HO201 HK HB HI0;intro HO201 HK HB HI0;(try clear hb);(try clear hb2);(try clear hk);(try clear hi))|((with_reducible refine gate_callee (f:=57) rfl ?_);refine goesL_ (some 22) rfl rfl Tryz.func57 (by kernel_rfl) rfl #[.agg #[.int .i64 t206,.int .i64 t207]] rfl lens ?_;(with_reducible refine (spec_EndText.calls k1 t206 t207 t209 _ A10.out).mono ?_);rintro e w21 ⟨rfl,hb⟩;refine ⟨_,rfl,?_⟩;have n0_:=m_ (Kd.R_below (puR HO201.out) hb);have n1_:=m_ (IsS56.below (by repeat (first|(with_reducible first|exact HI0.out|apply IsS56.alloc|apply IsS56.drewN|apply IsS56.drew|apply IsS56.set_1)|exact HI0.out)) hb);have n2_:=m_ (KeepBut.trans (puK HK.out) (KeepBut.of_below hb g none) (.inl rfl));have n3_:=m_ (l5_ (puM HB.out (IsS56.ge HI0.out)) hb);revert n0_ n1_ n2_ n3_;clear HO201 HI0 HK HB;intro HO201 HI0 HK HB;(try clear hb);(try clear hb2);(try clear hk);(try clear hi)))
       go_roundg k1
       case measure=>have:=HK1.out;omega
       case rel=>exact ⟨(x5_1 ++ (((⟨#[64]⟩ : ByteArray) ++ t209) ++ (⟨#[59]⟩ : ByteArray))),(wrap64 (x6_1 - 1)),(t208),(by first|rfl|(simp;done)|(simp [*];done)),(by first|rfl|(simp;done)|(simp [*];done)),H',⟨by have:=HK1.out;omega⟩,⟨by repeat (first|(with_reducible first|exact HI0.out|apply IsS56.alloc|apply IsS56.drewN|apply IsS56.drew|apply IsS56.set_1)|exact HI0.out)⟩,⟨puK HK.out⟩,⟨puM HB.out (IsS56.ge HI0.out)⟩⟩
      ·rw [if_neg c14] at H
       exact absurd H (by simp)
     ·rw [if_neg c13] at H
      have c13b0 : decide ((wrap64 ((x5_1.size : Int) + (1 + (t209.size : Int) + 1))) ≤ a1) = false:=decide_eq_false c13
      clear c13
      have H':=m_ H
      clear H
      go_wp2_with (first|((with_reducible refine gate_dst (N:=15) rfl ?_);refine Kd.R_lit Kd.string _ 9 ?hg (N:=15) ?hd (xs:=([(⟨#[97]⟩ : ByteArray),(⟨#[98,99]⟩ : ByteArray),(⟨#[64]⟩ : ByteArray),(⟨#[64,49]⟩ : ByteArray),(⟨#[59]⟩ : ByteArray),(⟨#[58,53]⟩ : ByteArray),(⟨#[120,49]⟩ : ByteArray),(⟨#[64,64]⟩ : ByteArray),(⟨#[64,49,58]⟩ : ByteArray),(⟨#[55]⟩ : ByteArray)] : List ByteArray)) (inner:=[.string (⟨#[97]⟩ : ByteArray),.string (⟨#[98,99]⟩ : ByteArray),.string (⟨#[64]⟩ : ByteArray),.string (⟨#[64,49]⟩ : ByteArray),.string (⟨#[59]⟩ : ByteArray),.string (⟨#[58,53]⟩ : ByteArray),.string (⟨#[120,49]⟩ : ByteArray),.string (⟨#[64,64]⟩ : ByteArray),.string (⟨#[64,49,58]⟩ : ByteArray),.string (⟨#[55]⟩ : ByteArray)]) (ok:=fun _=>True) (okp:=fun _=>True) ?hr ?hp (fun _ hk=>hk) trivial (Below.refl _ _) (Nat.le_refl _) (by simp) ?_;(case hd=>rfl);(case hg=>rfl);(case hr=>first|(go_simp;done)|(go_simp;rfl));(case hp=>exact (Reps.one (show Kd.M Kd.string _ _ _ (⟨#[97]⟩ : ByteArray) [.string (⟨#[97]⟩ : ByteArray)] from rfl) (Reps.one (show Kd.M Kd.string _ _ _ (⟨#[98,99]⟩ : ByteArray) [.string (⟨#[98,99]⟩ : ByteArray)] from rfl) (Reps.one (show Kd.M Kd.string _ _ _ (⟨#[64]⟩ : ByteArray) [.string (⟨#[64]⟩ : ByteArray)] from rfl) (Reps.one (show Kd.M Kd.string _ _ _ (⟨#[64,49]⟩ : ByteArray) [.string (⟨#[64,49]⟩ : ByteArray)] from rfl) (Reps.one (show Kd.M Kd.string _ _ _ (⟨#[59]⟩ : ByteArray) [.string (⟨#[59]⟩ : ByteArray)] from rfl) (Reps.one (show Kd.M Kd.string _ _ _ (⟨#[58,53]⟩ : ByteArray) [.string (⟨#[58,53]⟩ : ByteArray)] from rfl) (Reps.one (show Kd.M Kd.string _ _ _ (⟨#[120,49]⟩ : ByteArray) [.string (⟨#[120,49]⟩ : ByteArray)] from rfl) (Reps.one (show Kd.M Kd.string _ _ _ (⟨#[64,64]⟩ : ByteArray) [.string (⟨#[64,64]⟩ : ByteArray)] from rfl) (Reps.one (show Kd.M Kd.string _ _ _ (⟨#[64,49,58]⟩ : ByteArray) [.string (⟨#[64,49,58]⟩ : ByteArray)] from rfl) (Reps.one (show Kd.M Kd.string _ _ _ (⟨#[55]⟩ : ByteArray) [.string (⟨#[55]⟩ : ByteArray)] from rfl) (Reps.none _ _))))))))))));intro v200 w22 ho23 hb hg_ hnew_;clear hg_ hnew_;(first|rw [← Ny199.out] at ho23|(simp only [Int.reduceToNat] at ho23;rw [← Ny199.out] at ho23));have n0_:=m_ (Kd.R_lower ho23 (keep_size (w:=w) (g:=g) (row:=none) (puK HK.out)));have n1_:=m_ (IsS56.below (by repeat (first|(with_reducible first|exact HI0.out|apply IsS56.alloc|apply IsS56.drewN|apply IsS56.drew|apply IsS56.set_1)|exact HI0.out)) hb);have n2_:=m_ (KeepBut.trans (puK HK.out) (KeepBut.of_below hb g none) (.inl rfl));have n3_:=m_ (l5_ (puM HB.out (IsS56.ge HI0.out)) hb);revert n0_ n1_ n2_ n3_;clear HI0 HK HB;intro HO201 HI0 HK HB;clear hb ho23;obtain ⟨Ao24,co24,eo24⟩:=Kd.R_slice HO201.out;subst eo24)|((with_reducible refine gate_callee (f:=45) rfl ?_);refine goesL_ (some 16) rfl rfl Tryz.func45 (by kernel_rfl) rfl #[.pointer (some ⟨g,0,none⟩),.slice Ao24 y199.length co24] rfl lens ?_;(with_reducible refine (spec_l6Rd_of.calls k1 g s0_0 x1001_1 _ _ y199 t202 t203 w0 _ ?side1 ?side2 ?side3 ?side4 ?side5 A6.out).mono ?_);(case side1=>repeat (first|(with_reducible first|exact HI0.out|apply IsS56.alloc|apply IsS56.drewN|apply IsS56.drew|apply IsS56.set_1)|exact HI0.out));(case side2=>exact puM HB.out (IsS56.ge HI0.out));(case side3=>exact puC (Kd.R_reads' HO201.out).2.2);(case side4=>exact (Kd.R_reads' HO201.out).2.1);(case side5=>exact far_slice (IsS56.own_ne HI0.out HO201.out (by decide)));rintro e w25 ⟨rfl,hi,hb,hk⟩;refine ⟨_,rfl,?_⟩;have n0_:=m_ (Kd.R_mono (Kd.R_keep (IsS56.apart (show IsS56 w0 _ g s0_0 x1001_1 from by repeat (first|(with_reducible first|exact HI0.out|apply IsS56.alloc|apply IsS56.drewN|apply IsS56.drew|apply IsS56.set_1)|exact HI0.out)) (puR HO201.out) (by decide)) hk (fun _ h=>h.2)) (fun _ h=>h.1));have n1_:=m_ (KeepBut.trans (puK HK.out) hk (.inl rfl));have n2_:=m_ (hb);have n3_:=m_ (hi);revert n0_ n1_ n2_ n3_;clear HO201 HK HB HI0;intro HO201 HK HB HI0;(try clear hb);(try clear hb2);(try clear hk);(try clear hi))|((with_reducible refine gate_callee (f:=24) rfl ?_);refine goesL_ (some 18) rfl rfl Tryz.func24 (by kernel_rfl) rfl #[.pointer (some ⟨g,0,none⟩),.int .i64 5] rfl lens ?_;(with_reducible refine (spec_l6Rd_pick.calls k1 g s0_0 t203 5 t204 t205 w0 _ ?side1 ?side2 A7.out).mono ?_);(case side1=>repeat (first|(with_reducible first|exact HI0.out|apply IsS56.alloc|apply IsS56.drewN|apply IsS56.drew|apply IsS56.set_1)|exact HI0.out));(case side2=>exact puM HB.out (IsS56.ge HI0.out));rintro e w26 ⟨rfl,hi,hb,hk⟩;refine ⟨_,rfl,?_⟩;have n0_:=m_ (Kd.R_mono (Kd.R_keep (IsS56.apart (show IsS56 w0 _ g s0_0 t203 from by repeat (first|(with_reducible first|exact HI0.out|apply IsS56.alloc|apply IsS56.drewN|apply IsS56.drew|apply IsS56.set_1)|exact HI0.out)) (puR HO201.out) (by decide)) hk (fun _ h=>h.2)) (fun _ h=>h.1));have n1_:=m_ (KeepBut.trans (puK HK.out) hk (.inl rfl));have n2_:=m_ (hb);have n3_:=m_ (hi);revert n0_ n1_ n2_ n3_;clear HO201 HK HB HI0;intro HO201 HK HB HI0;(try clear hb);(try clear hb2);(try clear hk);(try clear hi))|((with_reducible refine gate_callee (f:=55) rfl ?_);refine goesL_ (some 21) rfl rfl Tryz.func55 (by kernel_rfl) rfl #[.pointer (some ⟨g,0,none⟩)] rfl lens ?_;(with_reducible refine (spec_l71End.calls k1 g s0_0 t205 t206 t207 t208 w0 _ ?side1 ?side2 A9.out).mono ?_);(case side1=>repeat (first|(with_reducible first|exact HI0.out|apply IsS56.alloc|apply IsS56.drewN|apply IsS56.drew|apply IsS56.set_1)|exact HI0.out));(case side2=>exact puM HB.out (IsS56.ge HI0.out));rintro e w27 ⟨rfl,hi,hb,hk⟩;refine ⟨_,rfl,?_⟩;have n0_:=m_ (Kd.R_mono (Kd.R_keep (IsS56.apart (show IsS56 w0 _ g s0_0 t205 from by repeat (first|(with_reducible first|exact HI0.out|apply IsS56.alloc|apply IsS56.drewN|apply IsS56.drew|apply IsS56.set_1)|exact HI0.out)) (puR HO201.out) (by decide)) hk (fun _ h=>h.2)) (fun _ h=>h.1));have n1_:=m_ (KeepBut.trans (puK HK.out) hk (.inl rfl));have n2_:=m_ (hb);have n3_:=m_ (hi);revert n0_ n1_ n2_ n3_;clear HO201 HK HB HI0;intro HO201 HK HB HI0;(try clear hb);(try clear hb2);(try clear hk);(try clear hi))|((with_reducible refine gate_callee (f:=57) rfl ?_);refine goesL_ (some 22) rfl rfl Tryz.func57 (by kernel_rfl) rfl #[.agg #[.int .i64 t206,.int .i64 t207]] rfl lens ?_;(with_reducible refine (spec_EndText.calls k1 t206 t207 t209 _ A10.out).mono ?_);rintro e w28 ⟨rfl,hb⟩;refine ⟨_,rfl,?_⟩;have n0_:=m_ (Kd.R_below (puR HO201.out) hb);have n1_:=m_ (IsS56.below (by repeat (first|(with_reducible first|exact HI0.out|apply IsS56.alloc|apply IsS56.drewN|apply IsS56.drew|apply IsS56.set_1)|exact HI0.out)) hb);have n2_:=m_ (KeepBut.trans (puK HK.out) (KeepBut.of_below hb g none) (.inl rfl));have n3_:=m_ (l5_ (puM HB.out (IsS56.ge HI0.out)) hb);revert n0_ n1_ n2_ n3_;clear HO201 HI0 HK HB;intro HO201 HI0 HK HB;(try clear hb);(try clear hb2);(try clear hk);(try clear hi)))
      go_roundg k1
      case measure=>have:=HK1.out;omega
      case rel=>exact ⟨(x5_1),(wrap64 (x6_1 - 1)),(t208),(by first|rfl|(simp;done)|(simp [*];done)),(by first|rfl|(simp;done)|(simp [*];done)),H',⟨by have:=HK1.out;omega⟩,⟨by repeat (first|(with_reducible first|exact HI0.out|apply IsS56.alloc|apply IsS56.drewN|apply IsS56.drew|apply IsS56.set_1)|exact HI0.out)⟩,⟨puK HK.out⟩,⟨puM HB.out (IsS56.ge HI0.out)⟩⟩
    ·rw [if_neg c8] at H
     have c8b0 : decide (t204 < 3) = false:=decide_eq_false c8
     clear c8
     by_cases c29 : (wrap64 ((x5_1.size : Int) + (t202.size : Int))) ≤ a1
     ·rw [if_pos c29] at H
      have c29b0 : decide ((wrap64 ((x5_1.size : Int) + (t202.size : Int))) ≤ a1) = true:=decide_eq_true c29
      clear c29
      by_cases c30 : x5_1.size + t202.size ≤ 9223372036854775807
      ·rw [if_pos c30] at H
       have c30b0:=eq_true c30
       have c30b1:=decide_eq_true c30
       try have c30b2 : (9223372036854775807 < x5_1.size + t202.size) = False:=eq_false (Nat.not_lt.2 c30)
       clear c30
       have H':=m_ H
       clear H
       go_wp2_with (first|((with_reducible refine gate_dst (N:=15) rfl ?_);refine Kd.R_lit Kd.string _ 9 ?hg (N:=15) ?hd (xs:=([(⟨#[97]⟩ : ByteArray),(⟨#[98,99]⟩ : ByteArray),(⟨#[64]⟩ : ByteArray),(⟨#[64,49]⟩ : ByteArray),(⟨#[59]⟩ : ByteArray),(⟨#[58,53]⟩ : ByteArray),(⟨#[120,49]⟩ : ByteArray),(⟨#[64,64]⟩ : ByteArray),(⟨#[64,49,58]⟩ : ByteArray),(⟨#[55]⟩ : ByteArray)] : List ByteArray)) (inner:=[.string (⟨#[97]⟩ : ByteArray),.string (⟨#[98,99]⟩ : ByteArray),.string (⟨#[64]⟩ : ByteArray),.string (⟨#[64,49]⟩ : ByteArray),.string (⟨#[59]⟩ : ByteArray),.string (⟨#[58,53]⟩ : ByteArray),.string (⟨#[120,49]⟩ : ByteArray),.string (⟨#[64,64]⟩ : ByteArray),.string (⟨#[64,49,58]⟩ : ByteArray),.string (⟨#[55]⟩ : ByteArray)]) (ok:=fun _=>True) (okp:=fun _=>True) ?hr ?hp (fun _ hk=>hk) trivial (Below.refl _ _) (Nat.le_refl _) (by simp) ?_;(case hd=>rfl);(case hg=>rfl);(case hr=>first|(go_simp;done)|(go_simp;rfl));(case hp=>exact (Reps.one (show Kd.M Kd.string _ _ _ (⟨#[97]⟩ : ByteArray) [.string (⟨#[97]⟩ : ByteArray)] from rfl) (Reps.one (show Kd.M Kd.string _ _ _ (⟨#[98,99]⟩ : ByteArray) [.string (⟨#[98,99]⟩ : ByteArray)] from rfl) (Reps.one (show Kd.M Kd.string _ _ _ (⟨#[64]⟩ : ByteArray) [.string (⟨#[64]⟩ : ByteArray)] from rfl) (Reps.one (show Kd.M Kd.string _ _ _ (⟨#[64,49]⟩ : ByteArray) [.string (⟨#[64,49]⟩ : ByteArray)] from rfl) (Reps.one (show Kd.M Kd.string _ _ _ (⟨#[59]⟩ : ByteArray) [.string (⟨#[59]⟩ : ByteArray)] from rfl) (Reps.one (show Kd.M Kd.string _ _ _ (⟨#[58,53]⟩ : ByteArray) [.string (⟨#[58,53]⟩ : ByteArray)] from rfl) (Reps.one (show Kd.M Kd.string _ _ _ (⟨#[120,49]⟩ : ByteArray) [.string (⟨#[120,49]⟩ : ByteArray)] from rfl) (Reps.one (show Kd.M Kd.string _ _ _ (⟨#[64,64]⟩ : ByteArray) [.string (⟨#[64,64]⟩ : ByteArray)] from rfl) (Reps.one (show Kd.M Kd.string _ _ _ (⟨#[64,49,58]⟩ : ByteArray) [.string (⟨#[64,49,58]⟩ : ByteArray)] from rfl) (Reps.one (show Kd.M Kd.string _ _ _ (⟨#[55]⟩ : ByteArray) [.string (⟨#[55]⟩ : ByteArray)] from rfl) (Reps.none _ _))))))))))));intro v200 w31 ho32 hb hg_ hnew_;clear hg_ hnew_;(first|rw [← Ny199.out] at ho32|(simp only [Int.reduceToNat] at ho32;rw [← Ny199.out] at ho32));have n0_:=m_ (Kd.R_lower ho32 (keep_size (w:=w) (g:=g) (row:=none) (puK HK.out)));have n1_:=m_ (IsS56.below (by repeat (first|(with_reducible first|exact HI0.out|apply IsS56.alloc|apply IsS56.drewN|apply IsS56.drew|apply IsS56.set_1)|exact HI0.out)) hb);have n2_:=m_ (KeepBut.trans (puK HK.out) (KeepBut.of_below hb g none) (.inl rfl));have n3_:=m_ (l5_ (puM HB.out (IsS56.ge HI0.out)) hb);revert n0_ n1_ n2_ n3_;clear HI0 HK HB;intro HO201 HI0 HK HB;clear hb ho32;obtain ⟨Ao33,co33,eo33⟩:=Kd.R_slice HO201.out;subst eo33)|((with_reducible refine gate_callee (f:=45) rfl ?_);refine goesL_ (some 16) rfl rfl Tryz.func45 (by kernel_rfl) rfl #[.pointer (some ⟨g,0,none⟩),.slice Ao33 y199.length co33] rfl lens ?_;(with_reducible refine (spec_l6Rd_of.calls k1 g s0_0 x1001_1 _ _ y199 t202 t203 w0 _ ?side1 ?side2 ?side3 ?side4 ?side5 A6.out).mono ?_);(case side1=>repeat (first|(with_reducible first|exact HI0.out|apply IsS56.alloc|apply IsS56.drewN|apply IsS56.drew|apply IsS56.set_1)|exact HI0.out));(case side2=>exact puM HB.out (IsS56.ge HI0.out));(case side3=>exact puC (Kd.R_reads' HO201.out).2.2);(case side4=>exact (Kd.R_reads' HO201.out).2.1);(case side5=>exact far_slice (IsS56.own_ne HI0.out HO201.out (by decide)));rintro e w34 ⟨rfl,hi,hb,hk⟩;refine ⟨_,rfl,?_⟩;have n0_:=m_ (Kd.R_mono (Kd.R_keep (IsS56.apart (show IsS56 w0 _ g s0_0 x1001_1 from by repeat (first|(with_reducible first|exact HI0.out|apply IsS56.alloc|apply IsS56.drewN|apply IsS56.drew|apply IsS56.set_1)|exact HI0.out)) (puR HO201.out) (by decide)) hk (fun _ h=>h.2)) (fun _ h=>h.1));have n1_:=m_ (KeepBut.trans (puK HK.out) hk (.inl rfl));have n2_:=m_ (hb);have n3_:=m_ (hi);revert n0_ n1_ n2_ n3_;clear HO201 HK HB HI0;intro HO201 HK HB HI0;(try clear hb);(try clear hb2);(try clear hk);(try clear hi))|((with_reducible refine gate_callee (f:=24) rfl ?_);refine goesL_ (some 18) rfl rfl Tryz.func24 (by kernel_rfl) rfl #[.pointer (some ⟨g,0,none⟩),.int .i64 5] rfl lens ?_;(with_reducible refine (spec_l6Rd_pick.calls k1 g s0_0 t203 5 t204 t205 w0 _ ?side1 ?side2 A7.out).mono ?_);(case side1=>repeat (first|(with_reducible first|exact HI0.out|apply IsS56.alloc|apply IsS56.drewN|apply IsS56.drew|apply IsS56.set_1)|exact HI0.out));(case side2=>exact puM HB.out (IsS56.ge HI0.out));rintro e w35 ⟨rfl,hi,hb,hk⟩;refine ⟨_,rfl,?_⟩;have n0_:=m_ (Kd.R_mono (Kd.R_keep (IsS56.apart (show IsS56 w0 _ g s0_0 t203 from by repeat (first|(with_reducible first|exact HI0.out|apply IsS56.alloc|apply IsS56.drewN|apply IsS56.drew|apply IsS56.set_1)|exact HI0.out)) (puR HO201.out) (by decide)) hk (fun _ h=>h.2)) (fun _ h=>h.1));have n1_:=m_ (KeepBut.trans (puK HK.out) hk (.inl rfl));have n2_:=m_ (hb);have n3_:=m_ (hi);revert n0_ n1_ n2_ n3_;clear HO201 HK HB HI0;intro HO201 HK HB HI0;(try clear hb);(try clear hb2);(try clear hk);(try clear hi)))
       go_roundg k1
       case measure=>have:=HK1.out;omega
       case rel=>exact ⟨(x5_1 ++ t202),(wrap64 (x6_1 - 1)),(t205),(by first|rfl|(simp;done)|(simp [*];done)),(by first|rfl|(simp;done)|(simp [*];done)),H',⟨by have:=HK1.out;omega⟩,⟨by repeat (first|(with_reducible first|exact HI0.out|apply IsS56.alloc|apply IsS56.drewN|apply IsS56.drew|apply IsS56.set_1)|exact HI0.out)⟩,⟨puK HK.out⟩,⟨puM HB.out (IsS56.ge HI0.out)⟩⟩
      ·rw [if_neg c30] at H
       exact absurd H (by simp)
     ·rw [if_neg c29] at H
      have c29b0 : decide ((wrap64 ((x5_1.size : Int) + (t202.size : Int))) ≤ a1) = false:=decide_eq_false c29
      clear c29
      have H':=m_ H
      clear H
      go_wp2_with (first|((with_reducible refine gate_dst (N:=15) rfl ?_);refine Kd.R_lit Kd.string _ 9 ?hg (N:=15) ?hd (xs:=([(⟨#[97]⟩ : ByteArray),(⟨#[98,99]⟩ : ByteArray),(⟨#[64]⟩ : ByteArray),(⟨#[64,49]⟩ : ByteArray),(⟨#[59]⟩ : ByteArray),(⟨#[58,53]⟩ : ByteArray),(⟨#[120,49]⟩ : ByteArray),(⟨#[64,64]⟩ : ByteArray),(⟨#[64,49,58]⟩ : ByteArray),(⟨#[55]⟩ : ByteArray)] : List ByteArray)) (inner:=[.string (⟨#[97]⟩ : ByteArray),.string (⟨#[98,99]⟩ : ByteArray),.string (⟨#[64]⟩ : ByteArray),.string (⟨#[64,49]⟩ : ByteArray),.string (⟨#[59]⟩ : ByteArray),.string (⟨#[58,53]⟩ : ByteArray),.string (⟨#[120,49]⟩ : ByteArray),.string (⟨#[64,64]⟩ : ByteArray),.string (⟨#[64,49,58]⟩ : ByteArray),.string (⟨#[55]⟩ : ByteArray)]) (ok:=fun _=>True) (okp:=fun _=>True) ?hr ?hp (fun _ hk=>hk) trivial (Below.refl _ _) (Nat.le_refl _) (by simp) ?_;(case hd=>rfl);(case hg=>rfl);(case hr=>first|(go_simp;done)|(go_simp;rfl));(case hp=>exact (Reps.one (show Kd.M Kd.string _ _ _ (⟨#[97]⟩ : ByteArray) [.string (⟨#[97]⟩ : ByteArray)] from rfl) (Reps.one (show Kd.M Kd.string _ _ _ (⟨#[98,99]⟩ : ByteArray) [.string (⟨#[98,99]⟩ : ByteArray)] from rfl) (Reps.one (show Kd.M Kd.string _ _ _ (⟨#[64]⟩ : ByteArray) [.string (⟨#[64]⟩ : ByteArray)] from rfl) (Reps.one (show Kd.M Kd.string _ _ _ (⟨#[64,49]⟩ : ByteArray) [.string (⟨#[64,49]⟩ : ByteArray)] from rfl) (Reps.one (show Kd.M Kd.string _ _ _ (⟨#[59]⟩ : ByteArray) [.string (⟨#[59]⟩ : ByteArray)] from rfl) (Reps.one (show Kd.M Kd.string _ _ _ (⟨#[58,53]⟩ : ByteArray) [.string (⟨#[58,53]⟩ : ByteArray)] from rfl) (Reps.one (show Kd.M Kd.string _ _ _ (⟨#[120,49]⟩ : ByteArray) [.string (⟨#[120,49]⟩ : ByteArray)] from rfl) (Reps.one (show Kd.M Kd.string _ _ _ (⟨#[64,64]⟩ : ByteArray) [.string (⟨#[64,64]⟩ : ByteArray)] from rfl) (Reps.one (show Kd.M Kd.string _ _ _ (⟨#[64,49,58]⟩ : ByteArray) [.string (⟨#[64,49,58]⟩ : ByteArray)] from rfl) (Reps.one (show Kd.M Kd.string _ _ _ (⟨#[55]⟩ : ByteArray) [.string (⟨#[55]⟩ : ByteArray)] from rfl) (Reps.none _ _))))))))))));intro v200 w36 ho37 hb hg_ hnew_;clear hg_ hnew_;(first|rw [← Ny199.out] at ho37|(simp only [Int.reduceToNat] at ho37;rw [← Ny199.out] at ho37));have n0_:=m_ (Kd.R_lower ho37 (keep_size (w:=w) (g:=g) (row:=none) (puK HK.out)));have n1_:=m_ (IsS56.below (by repeat (first|(with_reducible first|exact HI0.out|apply IsS56.alloc|apply IsS56.drewN|apply IsS56.drew|apply IsS56.set_1)|exact HI0.out)) hb);have n2_:=m_ (KeepBut.trans (puK HK.out) (KeepBut.of_below hb g none) (.inl rfl));have n3_:=m_ (l5_ (puM HB.out (IsS56.ge HI0.out)) hb);revert n0_ n1_ n2_ n3_;clear HI0 HK HB;intro HO201 HI0 HK HB;clear hb ho37;obtain ⟨Ao38,co38,eo38⟩:=Kd.R_slice HO201.out;subst eo38)|((with_reducible refine gate_callee (f:=45) rfl ?_);refine goesL_ (some 16) rfl rfl Tryz.func45 (by kernel_rfl) rfl #[.pointer (some ⟨g,0,none⟩),.slice Ao38 y199.length co38] rfl lens ?_;(with_reducible refine (spec_l6Rd_of.calls k1 g s0_0 x1001_1 _ _ y199 t202 t203 w0 _ ?side1 ?side2 ?side3 ?side4 ?side5 A6.out).mono ?_);(case side1=>repeat (first|(with_reducible first|exact HI0.out|apply IsS56.alloc|apply IsS56.drewN|apply IsS56.drew|apply IsS56.set_1)|exact HI0.out));(case side2=>exact puM HB.out (IsS56.ge HI0.out));(case side3=>exact puC (Kd.R_reads' HO201.out).2.2);(case side4=>exact (Kd.R_reads' HO201.out).2.1);(case side5=>exact far_slice (IsS56.own_ne HI0.out HO201.out (by decide)));rintro e w39 ⟨rfl,hi,hb,hk⟩;refine ⟨_,rfl,?_⟩;have n0_:=m_ (Kd.R_mono (Kd.R_keep (IsS56.apart (show IsS56 w0 _ g s0_0 x1001_1 from by repeat (first|(with_reducible first|exact HI0.out|apply IsS56.alloc|apply IsS56.drewN|apply IsS56.drew|apply IsS56.set_1)|exact HI0.out)) (puR HO201.out) (by decide)) hk (fun _ h=>h.2)) (fun _ h=>h.1));have n1_:=m_ (KeepBut.trans (puK HK.out) hk (.inl rfl));have n2_:=m_ (hb);have n3_:=m_ (hi);revert n0_ n1_ n2_ n3_;clear HO201 HK HB HI0;intro HO201 HK HB HI0;(try clear hb);(try clear hb2);(try clear hk);(try clear hi))|((with_reducible refine gate_callee (f:=24) rfl ?_);refine goesL_ (some 18) rfl rfl Tryz.func24 (by kernel_rfl) rfl #[.pointer (some ⟨g,0,none⟩),.int .i64 5] rfl lens ?_;(with_reducible refine (spec_l6Rd_pick.calls k1 g s0_0 t203 5 t204 t205 w0 _ ?side1 ?side2 A7.out).mono ?_);(case side1=>repeat (first|(with_reducible first|exact HI0.out|apply IsS56.alloc|apply IsS56.drewN|apply IsS56.drew|apply IsS56.set_1)|exact HI0.out));(case side2=>exact puM HB.out (IsS56.ge HI0.out));rintro e w40 ⟨rfl,hi,hb,hk⟩;refine ⟨_,rfl,?_⟩;have n0_:=m_ (Kd.R_mono (Kd.R_keep (IsS56.apart (show IsS56 w0 _ g s0_0 t203 from by repeat (first|(with_reducible first|exact HI0.out|apply IsS56.alloc|apply IsS56.drewN|apply IsS56.drew|apply IsS56.set_1)|exact HI0.out)) (puR HO201.out) (by decide)) hk (fun _ h=>h.2)) (fun _ h=>h.1));have n1_:=m_ (KeepBut.trans (puK HK.out) hk (.inl rfl));have n2_:=m_ (hb);have n3_:=m_ (hi);revert n0_ n1_ n2_ n3_;clear HO201 HK HB HI0;intro HO201 HK HB HI0;(try clear hb);(try clear hb2);(try clear hk);(try clear hi)))
      go_roundg k1
      case measure=>have:=HK1.out;omega
      case rel=>exact ⟨(x5_1),(wrap64 (x6_1 - 1)),(t205),(by first|rfl|(simp;done)|(simp [*];done)),(by first|rfl|(simp;done)|(simp [*];done)),H',⟨by have:=HK1.out;omega⟩,⟨by repeat (first|(with_reducible first|exact HI0.out|apply IsS56.alloc|apply IsS56.drewN|apply IsS56.drew|apply IsS56.set_1)|exact HI0.out)⟩,⟨puK HK.out⟩,⟨puM HB.out (IsS56.ge HI0.out)⟩⟩
   ·rw [if_neg c5] at H
    have c5b0 : decide (0 < x6_1) = false:=decide_eq_false c5
    clear c5
    simp only [Option.some.injEq,Prod.mk.injEq] at H
    obtain ⟨rfl,rfl⟩:=H
    go_wp2
    go_ret
    exact ⟨eqs,by repeat (first|(with_reducible first|exact HI0.out|apply IsS56.alloc|apply IsS56.drewN|apply IsS56.drew|apply IsS56.set_1)|exact HI0.out),puM HB.out (IsS56.ge HI0.out),puK HK.out⟩

/-! ### spec_l1Digit: function 80 -/
def spec_l1Digit.f (a0 : Int) : Option (Int) := if a0 < 48 then (some (-1)) else (if a0 > 57 then (some (-1)) else (some ((a0 - 48) % 256)))
set_option maxHeartbeats 8000000 in
set_option maxRecDepth 100000 in
theorem spec_l1Digit.calls (a0 : Int) (r : Int) (w : World) (h : spec_l1Digit.f a0 = some r) :
  Calls Tryz.prog 80 #[.int .u8 a0] w fun e w'=>e = .returned (.int .i64 r) ∧ Drawn0 w w':=by
 have H : (if a0 < 48 then (some (-1)) else (if a0 > 57 then (some (-1)) else (some ((a0 - 48) % 256)))) = some r:=h
 clear h
 by_cases c2 : a0 < 48
 ·rw [if_pos c2] at H
  have c2b0 : decide (a0 < 48) = true:=decide_eq_true c2
  clear c2
  obtain rfl:=Option.some.inj H
  go_enter Tryz.func80,Tryz.ntmps80
  go_wp2
  go_ret
  exact ⟨by first|rfl|(simp;done)|(simp [*];done),drn⟩
 ·rw [if_neg c2] at H
  have c2b0 : decide (a0 < 48) = false:=decide_eq_false c2
  clear c2
  by_cases c3 : a0 > 57
  ·rw [if_pos c3] at H
   have c3b0 : decide (57 < a0) = true:=decide_eq_true c3
   clear c3
   obtain rfl:=Option.some.inj H
   go_enter Tryz.func80,Tryz.ntmps80
   go_wp2
   go_ret
   exact ⟨by first|rfl|(simp;done)|(simp [*];done),drn⟩
  ·rw [if_neg c3] at H
   have c3b0 : decide (57 < a0) = false:=decide_eq_false c3
   clear c3
   obtain rfl:=Option.some.inj H
   go_enter Tryz.func80,Tryz.ntmps80
   go_wp2
   go_ret
   exact ⟨by first|rfl|(simp;done)|(simp [*];done),drn⟩

end Go.Proofs.YtkcjmmhleepjeaaGreatDoor.A
