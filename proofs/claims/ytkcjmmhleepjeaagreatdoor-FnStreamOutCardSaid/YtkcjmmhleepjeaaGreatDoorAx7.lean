-- Printed by myprint.py (wip/tools) out of the translation. Not trusted: Lean checks it.
import Derived.Test.YtkcjmmhleepjeaaGreatDoorAx0
import Derived.Test.YtkcjmmhleepjeaaGreatDoorAx4
import Derived.Test.YtkcjmmhleepjeaaGreatDoorAx6
namespace Go.Proofs.YtkcjmmhleepjeaaGreatDoor.A
open Go.RowKit Go.Proofs.YtkcjmmhleepjeaaGreatDoorW.PrintWords Go.Proofs.YtkcjmmhleepjeaaGreatDoorW.PrintLast Go.Proofs.YtkcjmmhleepjeaaGreatDoorW.PrintMore
attribute [local go_sem] max2_int min2_int max_two min_two max_three min_three max_four min_four
set_option linter.unusedVariables false
set_option linter.unusedSimpArgs false

/-! ### spec_l2Begins: function 72 -/
def spec_l2Begins.f (a0 : ByteArray) : Option (Bool) := (spec_l6In.f (a0.size : Int) 1 5).bind fun t210 => (if t210 = true then (if 0 < (a0.size : Int) then (if (bt a0 0) = 64 then (if (a0.size : Int) > 1 then (if 1 < (a0.size : Int) then ((spec_l1Digit.f (bt a0 1)).bind fun t211 => (if t211 < 1 then (some false) else (if (a0.size : Int) > 2 then (if 2 < (a0.size : Int) then (if (bt a0 2) = 58 then (if (a0.size : Int) > 3 then (if 3 < (a0.size : Int) then ((spec_l1Digit.f (bt a0 3)).bind fun t212 => (if t212 < 1 then (some false) else (if (a0.size : Int) < 5 then (some true) else (if 4 < (a0.size : Int) then ((spec_l1Digit.f (bt a0 4)).bind fun t213 => (some (decide (t213 ≥ 0)))) else (none))))) else (none)) else (if (a0.size : Int) < 5 then (some true) else (if 4 < (a0.size : Int) then ((spec_l1Digit.f (bt a0 4)).bind fun t214 => (some (decide (t214 ≥ 0)))) else (none)))) else (some false)) else (none)) else (if (a0.size : Int) > 3 then (if 3 < (a0.size : Int) then ((spec_l1Digit.f (bt a0 3)).bind fun t215 => (if t215 < 1 then (some false) else (if (a0.size : Int) < 5 then (some true) else (if 4 < (a0.size : Int) then ((spec_l1Digit.f (bt a0 4)).bind fun t216 => (some (decide (t216 ≥ 0)))) else (none))))) else (none)) else (if (a0.size : Int) < 5 then (some true) else (if 4 < (a0.size : Int) then ((spec_l1Digit.f (bt a0 4)).bind fun t217 => (some (decide (t217 ≥ 0)))) else (none))))))) else (none)) else (if (a0.size : Int) > 2 then (if 2 < (a0.size : Int) then (if (bt a0 2) = 58 then (if (a0.size : Int) > 3 then (if 3 < (a0.size : Int) then ((spec_l1Digit.f (bt a0 3)).bind fun t218 => (if t218 < 1 then (some false) else (if (a0.size : Int) < 5 then (some true) else (if 4 < (a0.size : Int) then ((spec_l1Digit.f (bt a0 4)).bind fun t219 => (some (decide (t219 ≥ 0)))) else (none))))) else (none)) else (if (a0.size : Int) < 5 then (some true) else (if 4 < (a0.size : Int) then ((spec_l1Digit.f (bt a0 4)).bind fun t220 => (some (decide (t220 ≥ 0)))) else (none)))) else (some false)) else (none)) else (if (a0.size : Int) > 3 then (if 3 < (a0.size : Int) then ((spec_l1Digit.f (bt a0 3)).bind fun t221 => (if t221 < 1 then (some false) else (if (a0.size : Int) < 5 then (some true) else (if 4 < (a0.size : Int) then ((spec_l1Digit.f (bt a0 4)).bind fun t222 => (some (decide (t222 ≥ 0)))) else (none))))) else (none)) else (if (a0.size : Int) < 5 then (some true) else (if 4 < (a0.size : Int) then ((spec_l1Digit.f (bt a0 4)).bind fun t223 => (some (decide (t223 ≥ 0)))) else (none)))))) else (some false)) else (none)) else (some false))
set_option maxHeartbeats 8000000 in
set_option maxRecDepth 100000 in
theorem spec_l2Begins.calls (a0 : ByteArray) (r : Bool) (w : World) (h : spec_l2Begins.f a0 = some r) :
  Calls Tryz.prog 72 #[.string a0] w fun e w'=>e = .returned (.bool r) ∧ Drawn0 w w':=by
 have H : ((spec_l6In.f (a0.size : Int) 1 5).bind fun t210=>(if t210 = true then (if 0 < (a0.size : Int) then (if (bt a0 0) = 64 then (if (a0.size : Int) > 1 then (if 1 < (a0.size : Int) then ((spec_l1Digit.f (bt a0 1)).bind fun t211=>(if t211 < 1 then (some false) else (if (a0.size : Int) > 2 then (if 2 < (a0.size : Int) then (if (bt a0 2) = 58 then (if (a0.size : Int) > 3 then (if 3 < (a0.size : Int) then ((spec_l1Digit.f (bt a0 3)).bind fun t212=>(if t212 < 1 then (some false) else (if (a0.size : Int) < 5 then (some true) else (if 4 < (a0.size : Int) then ((spec_l1Digit.f (bt a0 4)).bind fun t213=>(some (decide (t213 ≥ 0)))) else (none))))) else (none)) else (if (a0.size : Int) < 5 then (some true) else (if 4 < (a0.size : Int) then ((spec_l1Digit.f (bt a0 4)).bind fun t214=>(some (decide (t214 ≥ 0)))) else (none)))) else (some false)) else (none)) else (if (a0.size : Int) > 3 then (if 3 < (a0.size : Int) then ((spec_l1Digit.f (bt a0 3)).bind fun t215=>(if t215 < 1 then (some false) else (if (a0.size : Int) < 5 then (some true) else (if 4 < (a0.size : Int) then ((spec_l1Digit.f (bt a0 4)).bind fun t216=>(some (decide (t216 ≥ 0)))) else (none))))) else (none)) else (if (a0.size : Int) < 5 then (some true) else (if 4 < (a0.size : Int) then ((spec_l1Digit.f (bt a0 4)).bind fun t217=>(some (decide (t217 ≥ 0)))) else (none))))))) else (none)) else (if (a0.size : Int) > 2 then (if 2 < (a0.size : Int) then (if (bt a0 2) = 58 then (if (a0.size : Int) > 3 then (if 3 < (a0.size : Int) then ((spec_l1Digit.f (bt a0 3)).bind fun t218=>(if t218 < 1 then (some false) else (if (a0.size : Int) < 5 then (some true) else (if 4 < (a0.size : Int) then ((spec_l1Digit.f (bt a0 4)).bind fun t219=>(some (decide (t219 ≥ 0)))) else (none))))) else (none)) else (if (a0.size : Int) < 5 then (some true) else (if 4 < (a0.size : Int) then ((spec_l1Digit.f (bt a0 4)).bind fun t220=>(some (decide (t220 ≥ 0)))) else (none)))) else (some false)) else (none)) else (if (a0.size : Int) > 3 then (if 3 < (a0.size : Int) then ((spec_l1Digit.f (bt a0 3)).bind fun t221=>(if t221 < 1 then (some false) else (if (a0.size : Int) < 5 then (some true) else (if 4 < (a0.size : Int) then ((spec_l1Digit.f (bt a0 4)).bind fun t222=>(some (decide (t222 ≥ 0)))) else (none))))) else (none)) else (if (a0.size : Int) < 5 then (some true) else (if 4 < (a0.size : Int) then ((spec_l1Digit.f (bt a0 4)).bind fun t223=>(some (decide (t223 ≥ 0)))) else (none)))))) else (some false)) else (none)) else (some false))) = some r:=h
 clear h
 replace H:=Option.bind_eq_some_iff.mp H
 obtain ⟨t210,A20,H⟩:=H
 have A2:=m_ A20
 clear A20
 by_cases c3 : t210 = true
 ·subst c3
  replace H:=ifp H rfl
  by_cases c4 : 0 < (a0.size : Int)
  rotate_left
  ·rw [if_neg c4] at H
   exact absurd H (by simp)
  rw [if_pos c4] at H
  have c4b0 : decide (0 < (a0.size : Int)) = true:=decide_eq_true c4
  have c4b1 : decide (0 < a0.size) = true:=decide_eq_true (by omega)
  clear c4
  by_cases c6 : (bt a0 0) = 64
  ·rw [if_pos c6] at H
   have c6b0 : ((bt a0 0) == 64) = true:=beq_iff_eq.mpr c6
   have c6b1 : ((bt a0 0) != 64) = false:=bne_eq_false_iff_eq.mpr c6
   clear c6
   by_cases c7 : (a0.size : Int) > 1
   ·rw [if_pos c7] at H
    have c7b0 : decide (1 < (a0.size : Int)) = true:=decide_eq_true c7
    have c7b1 : decide (1 < a0.size) = true:=decide_eq_true (by omega)
    clear c7
    by_cases c8 : 1 < (a0.size : Int)
    rotate_left
    ·rw [if_neg c8] at H
     exact absurd H (by simp)
    rw [if_pos c8] at H
    have c8b0 : decide (1 < (a0.size : Int)) = true:=decide_eq_true c8
    have c8b1 : decide (1 < a0.size) = true:=decide_eq_true (by omega)
    clear c8
    replace H:=Option.bind_eq_some_iff.mp H
    obtain ⟨t211,A100,H⟩:=H
    have A10:=m_ A100
    clear A100
    by_cases c11 : t211 < 1
    ·rw [if_pos c11] at H
     have c11b0 : decide (t211 < 1) = true:=decide_eq_true c11
     clear c11
     obtain rfl:=Option.some.inj H
     go_enter Tryz.func72,Tryz.ntmps72
     go_wp2_with (first|((with_reducible refine gate_callee (f:=27) rfl ?_);refine goesL_ (some 7) rfl rfl Tryz.func27 (by kernel_rfl) rfl #[.int .i64 (a0.size : Int),.int .i64 1,.int .i64 5] rfl lens ?_;(with_reducible refine (spec_l6In.calls (a0.size : Int) 1 5 true _ A2.out).mono ?_);rintro e w' ⟨rfl,⟨nd,rfl⟩⟩;refine ⟨_,rfl,?_⟩;have p5 : 0 ≤ (0 : Int):=(by omega);have q5 : 0 < a0.size:=(by have : (0 : Int) < (a0.size : Int):=of_decide_eq_true asm;omega);have hx5 : ∀ h : 0 < a0.size,((a0[0]'h).toNat : Int) = bt a0 0:=bt_at a0 0;clear p5;have qi5 : (0 < (a0.size : Int)) = True:=eq_true (of_decide_eq_true asm);replace q5:=eq_true q5;have p9 : 0 ≤ (1 : Int):=(by omega);have q9 : 1 < a0.size:=(by have : (1 : Int) < (a0.size : Int):=of_decide_eq_true asm;omega);have hx9 : ∀ h : 1 < a0.size,((a0[1]'h).toNat : Int) = bt a0 1:=bt_at a0 1;clear p9;have qi9 : (1 < (a0.size : Int)) = True:=eq_true (of_decide_eq_true asm);replace q9:=eq_true q9)|(go_at_call 80;(with_reducible refine (spec_l1Digit.calls (bt a0 1) t211 _ A10.out).mono ?_);rintro e w' ⟨rfl,⟨nd,rfl⟩⟩))
     go_ret
     exact ⟨by first|rfl|(simp;done)|(simp [*];done),drn⟩
    ·rw [if_neg c11] at H
     have c11b0 : decide (t211 < 1) = false:=decide_eq_false c11
     clear c11
     by_cases c12 : (a0.size : Int) > 2
     ·rw [if_pos c12] at H
      have c12b0 : decide (2 < (a0.size : Int)) = true:=decide_eq_true c12
      have c12b1 : decide (2 < a0.size) = true:=decide_eq_true (by omega)
      clear c12
      by_cases c13 : 2 < (a0.size : Int)
      rotate_left
      ·rw [if_neg c13] at H
       exact absurd H (by simp)
      rw [if_pos c13] at H
      have c13b0 : decide (2 < (a0.size : Int)) = true:=decide_eq_true c13
      have c13b1 : decide (2 < a0.size) = true:=decide_eq_true (by omega)
      clear c13
      by_cases c15 : (bt a0 2) = 58
      ·rw [if_pos c15] at H
       have c15b0 : ((bt a0 2) == 58) = true:=beq_iff_eq.mpr c15
       have c15b1 : ((bt a0 2) != 58) = false:=bne_eq_false_iff_eq.mpr c15
       clear c15
       by_cases c16 : (a0.size : Int) > 3
       ·rw [if_pos c16] at H
        have c16b0 : decide (3 < (a0.size : Int)) = true:=decide_eq_true c16
        have c16b1 : decide (3 < a0.size) = true:=decide_eq_true (by omega)
        clear c16
        by_cases c17 : 3 < (a0.size : Int)
        rotate_left
        ·rw [if_neg c17] at H
         exact absurd H (by simp)
        rw [if_pos c17] at H
        have c17b0 : decide (3 < (a0.size : Int)) = true:=decide_eq_true c17
        have c17b1 : decide (3 < a0.size) = true:=decide_eq_true (by omega)
        clear c17
        replace H:=Option.bind_eq_some_iff.mp H
        obtain ⟨t212,A190,H⟩:=H
        have A19:=m_ A190
        clear A190
        by_cases c20 : t212 < 1
        ·rw [if_pos c20] at H
         have c20b0 : decide (t212 < 1) = true:=decide_eq_true c20
         clear c20
         obtain rfl:=Option.some.inj H
         go_enter Tryz.func72,Tryz.ntmps72
         go_wp2_with (first|((with_reducible refine gate_callee (f:=27) rfl ?_);refine goesL_ (some 7) rfl rfl Tryz.func27 (by kernel_rfl) rfl #[.int .i64 (a0.size : Int),.int .i64 1,.int .i64 5] rfl lens ?_;(with_reducible refine (spec_l6In.calls (a0.size : Int) 1 5 true _ A2.out).mono ?_);rintro e w' ⟨rfl,⟨nd,rfl⟩⟩;refine ⟨_,rfl,?_⟩;have p5 : 0 ≤ (0 : Int):=(by omega);have q5 : 0 < a0.size:=(by have : (0 : Int) < (a0.size : Int):=of_decide_eq_true asm;omega);have hx5 : ∀ h : 0 < a0.size,((a0[0]'h).toNat : Int) = bt a0 0:=bt_at a0 0;clear p5;have qi5 : (0 < (a0.size : Int)) = True:=eq_true (of_decide_eq_true asm);replace q5:=eq_true q5;have p9 : 0 ≤ (1 : Int):=(by omega);have q9 : 1 < a0.size:=(by have : (1 : Int) < (a0.size : Int):=of_decide_eq_true asm;omega);have hx9 : ∀ h : 1 < a0.size,((a0[1]'h).toNat : Int) = bt a0 1:=bt_at a0 1;clear p9;have qi9 : (1 < (a0.size : Int)) = True:=eq_true (of_decide_eq_true asm);replace q9:=eq_true q9)|(go_at_call 80;(with_reducible refine (spec_l1Digit.calls (bt a0 1) t211 _ A10.out).mono ?_);rintro e w' ⟨rfl,⟨nd,rfl⟩⟩;have p14 : 0 ≤ (2 : Int):=(by omega);have q14 : 2 < a0.size:=(by have : (2 : Int) < (a0.size : Int):=of_decide_eq_true asm;omega);have hx14 : ∀ h : 2 < a0.size,((a0[2]'h).toNat : Int) = bt a0 2:=bt_at a0 2;clear p14;have qi14 : (2 < (a0.size : Int)) = True:=eq_true (of_decide_eq_true asm);replace q14:=eq_true q14;have p18 : 0 ≤ (3 : Int):=(by omega);have q18 : 3 < a0.size:=(by have : (3 : Int) < (a0.size : Int):=of_decide_eq_true asm;omega);have hx18 : ∀ h : 3 < a0.size,((a0[3]'h).toNat : Int) = bt a0 3:=bt_at a0 3;clear p18;have qi18 : (3 < (a0.size : Int)) = True:=eq_true (of_decide_eq_true asm);replace q18:=eq_true q18)|(go_at_call 80;(with_reducible refine (spec_l1Digit.calls (bt a0 3) t212 _ A19.out).mono ?_);rintro e w' ⟨rfl,⟨nd,rfl⟩⟩))
         go_ret
         exact ⟨by first|rfl|(simp;done)|(simp [*];done),drn⟩
        ·rw [if_neg c20] at H
         have c20b0 : decide (t212 < 1) = false:=decide_eq_false c20
         clear c20
         by_cases c21 : (a0.size : Int) < 5
         ·rw [if_pos c21] at H
          have c21b0 : decide ((a0.size : Int) < 5) = true:=decide_eq_true c21
          have c21b1 : decide (a0.size < 5) = true:=decide_eq_true (by omega)
          clear c21
          obtain rfl:=Option.some.inj H
          go_enter Tryz.func72,Tryz.ntmps72
          go_wp2_with (first|((with_reducible refine gate_callee (f:=27) rfl ?_);refine goesL_ (some 7) rfl rfl Tryz.func27 (by kernel_rfl) rfl #[.int .i64 (a0.size : Int),.int .i64 1,.int .i64 5] rfl lens ?_;(with_reducible refine (spec_l6In.calls (a0.size : Int) 1 5 true _ A2.out).mono ?_);rintro e w' ⟨rfl,⟨nd,rfl⟩⟩;refine ⟨_,rfl,?_⟩;have p5 : 0 ≤ (0 : Int):=(by omega);have q5 : 0 < a0.size:=(by have : (0 : Int) < (a0.size : Int):=of_decide_eq_true asm;omega);have hx5 : ∀ h : 0 < a0.size,((a0[0]'h).toNat : Int) = bt a0 0:=bt_at a0 0;clear p5;have qi5 : (0 < (a0.size : Int)) = True:=eq_true (of_decide_eq_true asm);replace q5:=eq_true q5;have p9 : 0 ≤ (1 : Int):=(by omega);have q9 : 1 < a0.size:=(by have : (1 : Int) < (a0.size : Int):=of_decide_eq_true asm;omega);have hx9 : ∀ h : 1 < a0.size,((a0[1]'h).toNat : Int) = bt a0 1:=bt_at a0 1;clear p9;have qi9 : (1 < (a0.size : Int)) = True:=eq_true (of_decide_eq_true asm);replace q9:=eq_true q9)|(go_at_call 80;(with_reducible refine (spec_l1Digit.calls (bt a0 1) t211 _ A10.out).mono ?_);rintro e w' ⟨rfl,⟨nd,rfl⟩⟩;have p14 : 0 ≤ (2 : Int):=(by omega);have q14 : 2 < a0.size:=(by have : (2 : Int) < (a0.size : Int):=of_decide_eq_true asm;omega);have hx14 : ∀ h : 2 < a0.size,((a0[2]'h).toNat : Int) = bt a0 2:=bt_at a0 2;clear p14;have qi14 : (2 < (a0.size : Int)) = True:=eq_true (of_decide_eq_true asm);replace q14:=eq_true q14;have p18 : 0 ≤ (3 : Int):=(by omega);have q18 : 3 < a0.size:=(by have : (3 : Int) < (a0.size : Int):=of_decide_eq_true asm;omega);have hx18 : ∀ h : 3 < a0.size,((a0[3]'h).toNat : Int) = bt a0 3:=bt_at a0 3;clear p18;have qi18 : (3 < (a0.size : Int)) = True:=eq_true (of_decide_eq_true asm);replace q18:=eq_true q18)|(go_at_call 80;(with_reducible refine (spec_l1Digit.calls (bt a0 3) t212 _ A19.out).mono ?_);rintro e w' ⟨rfl,⟨nd,rfl⟩⟩))
          go_ret
          exact ⟨by first|rfl|(simp;done)|(simp [*];done),drn⟩
         ·rw [if_neg c21] at H
          have c21b0 : decide ((a0.size : Int) < 5) = false:=decide_eq_false c21
          have c21b1 : decide (a0.size < 5) = false:=decide_eq_false (by omega)
          clear c21
          by_cases c22 : 4 < (a0.size : Int)
          ·rw [if_pos c22] at H
           have c22b0 : decide (4 < (a0.size : Int)) = true:=decide_eq_true c22
           have c22b1 : decide (4 < a0.size) = true:=decide_eq_true (by omega)
           clear c22
           replace H:=Option.bind_eq_some_iff.mp H
           obtain ⟨t213,A240,H⟩:=H
           have A24:=m_ A240
           clear A240
           obtain rfl:=Option.some.inj H
           go_enter Tryz.func72,Tryz.ntmps72
           go_wp2_with (first|((with_reducible refine gate_callee (f:=27) rfl ?_);refine goesL_ (some 7) rfl rfl Tryz.func27 (by kernel_rfl) rfl #[.int .i64 (a0.size : Int),.int .i64 1,.int .i64 5] rfl lens ?_;(with_reducible refine (spec_l6In.calls (a0.size : Int) 1 5 true _ A2.out).mono ?_);rintro e w' ⟨rfl,⟨nd,rfl⟩⟩;refine ⟨_,rfl,?_⟩;have p5 : 0 ≤ (0 : Int):=(by omega);have q5 : 0 < a0.size:=(by have : (0 : Int) < (a0.size : Int):=of_decide_eq_true asm;omega);have hx5 : ∀ h : 0 < a0.size,((a0[0]'h).toNat : Int) = bt a0 0:=bt_at a0 0;clear p5;have qi5 : (0 < (a0.size : Int)) = True:=eq_true (of_decide_eq_true asm);replace q5:=eq_true q5;have p9 : 0 ≤ (1 : Int):=(by omega);have q9 : 1 < a0.size:=(by have : (1 : Int) < (a0.size : Int):=of_decide_eq_true asm;omega);have hx9 : ∀ h : 1 < a0.size,((a0[1]'h).toNat : Int) = bt a0 1:=bt_at a0 1;clear p9;have qi9 : (1 < (a0.size : Int)) = True:=eq_true (of_decide_eq_true asm);replace q9:=eq_true q9)|(go_at_call 80;(with_reducible refine (spec_l1Digit.calls (bt a0 1) t211 _ A10.out).mono ?_);rintro e w' ⟨rfl,⟨nd,rfl⟩⟩;have p14 : 0 ≤ (2 : Int):=(by omega);have q14 : 2 < a0.size:=(by have : (2 : Int) < (a0.size : Int):=of_decide_eq_true asm;omega);have hx14 : ∀ h : 2 < a0.size,((a0[2]'h).toNat : Int) = bt a0 2:=bt_at a0 2;clear p14;have qi14 : (2 < (a0.size : Int)) = True:=eq_true (of_decide_eq_true asm);replace q14:=eq_true q14;have p18 : 0 ≤ (3 : Int):=(by omega);have q18 : 3 < a0.size:=(by have : (3 : Int) < (a0.size : Int):=of_decide_eq_true asm;omega);have hx18 : ∀ h : 3 < a0.size,((a0[3]'h).toNat : Int) = bt a0 3:=bt_at a0 3;clear p18;have qi18 : (3 < (a0.size : Int)) = True:=eq_true (of_decide_eq_true asm);replace q18:=eq_true q18)|(go_at_call 80;(with_reducible refine (spec_l1Digit.calls (bt a0 3) t212 _ A19.out).mono ?_);rintro e w' ⟨rfl,⟨nd,rfl⟩⟩;have p23 : 0 ≤ (4 : Int):=(by omega);have q23 : 4 < a0.size:=(by have : (4 : Int) < (a0.size : Int):=of_decide_eq_true asm;omega);have hx23 : ∀ h : 4 < a0.size,((a0[4]'h).toNat : Int) = bt a0 4:=bt_at a0 4;clear p23;have qi23 : (4 < (a0.size : Int)) = True:=eq_true (of_decide_eq_true asm);replace q23:=eq_true q23)|(go_at_call 80;(with_reducible refine (spec_l1Digit.calls (bt a0 4) t213 _ A24.out).mono ?_);rintro e w' ⟨rfl,⟨nd,rfl⟩⟩))
           go_ret
           exact ⟨by first|rfl|(simp;done)|(simp [*];done),drn⟩
          ·rw [if_neg c22] at H
           exact absurd H (by simp)
       ·rw [if_neg c16] at H
        have c16b0 : decide (3 < (a0.size : Int)) = false:=decide_eq_false c16
        have c16b1 : decide (3 < a0.size) = false:=decide_eq_false (by omega)
        clear c16
        by_cases c25 : (a0.size : Int) < 5
        ·rw [if_pos c25] at H
         have c25b0 : decide ((a0.size : Int) < 5) = true:=decide_eq_true c25
         have c25b1 : decide (a0.size < 5) = true:=decide_eq_true (by omega)
         clear c25
         obtain rfl:=Option.some.inj H
         go_enter Tryz.func72,Tryz.ntmps72
         go_wp2_with (first|((with_reducible refine gate_callee (f:=27) rfl ?_);refine goesL_ (some 7) rfl rfl Tryz.func27 (by kernel_rfl) rfl #[.int .i64 (a0.size : Int),.int .i64 1,.int .i64 5] rfl lens ?_;(with_reducible refine (spec_l6In.calls (a0.size : Int) 1 5 true _ A2.out).mono ?_);rintro e w' ⟨rfl,⟨nd,rfl⟩⟩;refine ⟨_,rfl,?_⟩;have p5 : 0 ≤ (0 : Int):=(by omega);have q5 : 0 < a0.size:=(by have : (0 : Int) < (a0.size : Int):=of_decide_eq_true asm;omega);have hx5 : ∀ h : 0 < a0.size,((a0[0]'h).toNat : Int) = bt a0 0:=bt_at a0 0;clear p5;have qi5 : (0 < (a0.size : Int)) = True:=eq_true (of_decide_eq_true asm);replace q5:=eq_true q5;have p9 : 0 ≤ (1 : Int):=(by omega);have q9 : 1 < a0.size:=(by have : (1 : Int) < (a0.size : Int):=of_decide_eq_true asm;omega);have hx9 : ∀ h : 1 < a0.size,((a0[1]'h).toNat : Int) = bt a0 1:=bt_at a0 1;clear p9;have qi9 : (1 < (a0.size : Int)) = True:=eq_true (of_decide_eq_true asm);replace q9:=eq_true q9)|(go_at_call 80;(with_reducible refine (spec_l1Digit.calls (bt a0 1) t211 _ A10.out).mono ?_);rintro e w' ⟨rfl,⟨nd,rfl⟩⟩;have p14 : 0 ≤ (2 : Int):=(by omega);have q14 : 2 < a0.size:=(by have : (2 : Int) < (a0.size : Int):=of_decide_eq_true asm;omega);have hx14 : ∀ h : 2 < a0.size,((a0[2]'h).toNat : Int) = bt a0 2:=bt_at a0 2;clear p14;have qi14 : (2 < (a0.size : Int)) = True:=eq_true (of_decide_eq_true asm);replace q14:=eq_true q14))
         go_ret
         exact ⟨by first|rfl|(simp;done)|(simp [*];done),drn⟩
        ·rw [if_neg c25] at H
         have c25b0 : decide ((a0.size : Int) < 5) = false:=decide_eq_false c25
         have c25b1 : decide (a0.size < 5) = false:=decide_eq_false (by omega)
         clear c25
         by_cases c26 : 4 < (a0.size : Int)
         ·rw [if_pos c26] at H
          have c26b0 : decide (4 < (a0.size : Int)) = true:=decide_eq_true c26
          have c26b1 : decide (4 < a0.size) = true:=decide_eq_true (by omega)
          clear c26
          replace H:=Option.bind_eq_some_iff.mp H
          obtain ⟨t214,A280,H⟩:=H
          have A28:=m_ A280
          clear A280
          obtain rfl:=Option.some.inj H
          go_enter Tryz.func72,Tryz.ntmps72
          go_wp2_with (first|((with_reducible refine gate_callee (f:=27) rfl ?_);refine goesL_ (some 7) rfl rfl Tryz.func27 (by kernel_rfl) rfl #[.int .i64 (a0.size : Int),.int .i64 1,.int .i64 5] rfl lens ?_;(with_reducible refine (spec_l6In.calls (a0.size : Int) 1 5 true _ A2.out).mono ?_);rintro e w' ⟨rfl,⟨nd,rfl⟩⟩;refine ⟨_,rfl,?_⟩;have p5 : 0 ≤ (0 : Int):=(by omega);have q5 : 0 < a0.size:=(by have : (0 : Int) < (a0.size : Int):=of_decide_eq_true asm;omega);have hx5 : ∀ h : 0 < a0.size,((a0[0]'h).toNat : Int) = bt a0 0:=bt_at a0 0;clear p5;have qi5 : (0 < (a0.size : Int)) = True:=eq_true (of_decide_eq_true asm);replace q5:=eq_true q5;have p9 : 0 ≤ (1 : Int):=(by omega);have q9 : 1 < a0.size:=(by have : (1 : Int) < (a0.size : Int):=of_decide_eq_true asm;omega);have hx9 : ∀ h : 1 < a0.size,((a0[1]'h).toNat : Int) = bt a0 1:=bt_at a0 1;clear p9;have qi9 : (1 < (a0.size : Int)) = True:=eq_true (of_decide_eq_true asm);replace q9:=eq_true q9)|(go_at_call 80;(with_reducible refine (spec_l1Digit.calls (bt a0 1) t211 _ A10.out).mono ?_);rintro e w' ⟨rfl,⟨nd,rfl⟩⟩;have p14 : 0 ≤ (2 : Int):=(by omega);have q14 : 2 < a0.size:=(by have : (2 : Int) < (a0.size : Int):=of_decide_eq_true asm;omega);have hx14 : ∀ h : 2 < a0.size,((a0[2]'h).toNat : Int) = bt a0 2:=bt_at a0 2;clear p14;have qi14 : (2 < (a0.size : Int)) = True:=eq_true (of_decide_eq_true asm);replace q14:=eq_true q14;have p27 : 0 ≤ (4 : Int):=(by omega);have q27 : 4 < a0.size:=(by have : (4 : Int) < (a0.size : Int):=of_decide_eq_true asm;omega);have hx27 : ∀ h : 4 < a0.size,((a0[4]'h).toNat : Int) = bt a0 4:=bt_at a0 4;clear p27;have qi27 : (4 < (a0.size : Int)) = True:=eq_true (of_decide_eq_true asm);replace q27:=eq_true q27)|(go_at_call 80;(with_reducible refine (spec_l1Digit.calls (bt a0 4) t214 _ A28.out).mono ?_);rintro e w' ⟨rfl,⟨nd,rfl⟩⟩))
          go_ret
          exact ⟨by first|rfl|(simp;done)|(simp [*];done),drn⟩
         ·rw [if_neg c26] at H
          exact absurd H (by simp)
      ·rw [if_neg c15] at H
       have c15b0 : ((bt a0 2) == 58) = false:=beq_eq_false_iff_ne.mpr c15
       have c15b1 : ((bt a0 2) != 58) = true:=bne_iff_ne.mpr c15
       obtain rfl:=Option.some.inj H
       go_enter Tryz.func72,Tryz.ntmps72
       go_wp2_with (first|((with_reducible refine gate_callee (f:=27) rfl ?_);refine goesL_ (some 7) rfl rfl Tryz.func27 (by kernel_rfl) rfl #[.int .i64 (a0.size : Int),.int .i64 1,.int .i64 5] rfl lens ?_;(with_reducible refine (spec_l6In.calls (a0.size : Int) 1 5 true _ A2.out).mono ?_);rintro e w' ⟨rfl,⟨nd,rfl⟩⟩;refine ⟨_,rfl,?_⟩;have p5 : 0 ≤ (0 : Int):=(by omega);have q5 : 0 < a0.size:=(by have : (0 : Int) < (a0.size : Int):=of_decide_eq_true asm;omega);have hx5 : ∀ h : 0 < a0.size,((a0[0]'h).toNat : Int) = bt a0 0:=bt_at a0 0;clear p5;have qi5 : (0 < (a0.size : Int)) = True:=eq_true (of_decide_eq_true asm);replace q5:=eq_true q5;have p9 : 0 ≤ (1 : Int):=(by omega);have q9 : 1 < a0.size:=(by have : (1 : Int) < (a0.size : Int):=of_decide_eq_true asm;omega);have hx9 : ∀ h : 1 < a0.size,((a0[1]'h).toNat : Int) = bt a0 1:=bt_at a0 1;clear p9;have qi9 : (1 < (a0.size : Int)) = True:=eq_true (of_decide_eq_true asm);replace q9:=eq_true q9)|(go_at_call 80;(with_reducible refine (spec_l1Digit.calls (bt a0 1) t211 _ A10.out).mono ?_);rintro e w' ⟨rfl,⟨nd,rfl⟩⟩;have p14 : 0 ≤ (2 : Int):=(by omega);have q14 : 2 < a0.size:=(by have : (2 : Int) < (a0.size : Int):=of_decide_eq_true asm;omega);have hx14 : ∀ h : 2 < a0.size,((a0[2]'h).toNat : Int) = bt a0 2:=bt_at a0 2;clear p14;have qi14 : (2 < (a0.size : Int)) = True:=eq_true (of_decide_eq_true asm);replace q14:=eq_true q14))
       go_ret
       exact ⟨by first|rfl|(simp;done)|(simp [*];done),drn⟩
     ·rw [if_neg c12] at H
      have c12b0 : decide (2 < (a0.size : Int)) = false:=decide_eq_false c12
      have c12b1 : decide (2 < a0.size) = false:=decide_eq_false (by omega)
      clear c12
      by_cases c29 : (a0.size : Int) > 3
      ·rw [if_pos c29] at H
       have c29b0 : decide (3 < (a0.size : Int)) = true:=decide_eq_true c29
       have c29b1 : decide (3 < a0.size) = true:=decide_eq_true (by omega)
       clear c29
       by_cases c30 : 3 < (a0.size : Int)
       rotate_left
       ·rw [if_neg c30] at H
        exact absurd H (by simp)
       rw [if_pos c30] at H
       have c30b0 : decide (3 < (a0.size : Int)) = true:=decide_eq_true c30
       have c30b1 : decide (3 < a0.size) = true:=decide_eq_true (by omega)
       clear c30
       replace H:=Option.bind_eq_some_iff.mp H
       obtain ⟨t215,A320,H⟩:=H
       have A32:=m_ A320
       clear A320
       by_cases c33 : t215 < 1
       ·rw [if_pos c33] at H
        have c33b0 : decide (t215 < 1) = true:=decide_eq_true c33
        clear c33
        obtain rfl:=Option.some.inj H
        go_enter Tryz.func72,Tryz.ntmps72
        go_wp2_with (first|((with_reducible refine gate_callee (f:=27) rfl ?_);refine goesL_ (some 7) rfl rfl Tryz.func27 (by kernel_rfl) rfl #[.int .i64 (a0.size : Int),.int .i64 1,.int .i64 5] rfl lens ?_;(with_reducible refine (spec_l6In.calls (a0.size : Int) 1 5 true _ A2.out).mono ?_);rintro e w' ⟨rfl,⟨nd,rfl⟩⟩;refine ⟨_,rfl,?_⟩;have p5 : 0 ≤ (0 : Int):=(by omega);have q5 : 0 < a0.size:=(by have : (0 : Int) < (a0.size : Int):=of_decide_eq_true asm;omega);have hx5 : ∀ h : 0 < a0.size,((a0[0]'h).toNat : Int) = bt a0 0:=bt_at a0 0;clear p5;have qi5 : (0 < (a0.size : Int)) = True:=eq_true (of_decide_eq_true asm);replace q5:=eq_true q5;have p9 : 0 ≤ (1 : Int):=(by omega);have q9 : 1 < a0.size:=(by have : (1 : Int) < (a0.size : Int):=of_decide_eq_true asm;omega);have hx9 : ∀ h : 1 < a0.size,((a0[1]'h).toNat : Int) = bt a0 1:=bt_at a0 1;clear p9;have qi9 : (1 < (a0.size : Int)) = True:=eq_true (of_decide_eq_true asm);replace q9:=eq_true q9)|(go_at_call 80;(with_reducible refine (spec_l1Digit.calls (bt a0 1) t211 _ A10.out).mono ?_);rintro e w' ⟨rfl,⟨nd,rfl⟩⟩;have p31 : 0 ≤ (3 : Int):=(by omega);have q31 : 3 < a0.size:=(by have : (3 : Int) < (a0.size : Int):=of_decide_eq_true asm;omega);have hx31 : ∀ h : 3 < a0.size,((a0[3]'h).toNat : Int) = bt a0 3:=bt_at a0 3;clear p31;have qi31 : (3 < (a0.size : Int)) = True:=eq_true (of_decide_eq_true asm);replace q31:=eq_true q31)|(go_at_call 80;(with_reducible refine (spec_l1Digit.calls (bt a0 3) t215 _ A32.out).mono ?_);rintro e w' ⟨rfl,⟨nd,rfl⟩⟩))
        go_ret
        exact ⟨by first|rfl|(simp;done)|(simp [*];done),drn⟩
       ·rw [if_neg c33] at H
        have c33b0 : decide (t215 < 1) = false:=decide_eq_false c33
        clear c33
        by_cases c34 : (a0.size : Int) < 5
        ·rw [if_pos c34] at H
         have c34b0 : decide ((a0.size : Int) < 5) = true:=decide_eq_true c34
         have c34b1 : decide (a0.size < 5) = true:=decide_eq_true (by omega)
         clear c34
         obtain rfl:=Option.some.inj H
         go_enter Tryz.func72,Tryz.ntmps72
         go_wp2_with (first|((with_reducible refine gate_callee (f:=27) rfl ?_);refine goesL_ (some 7) rfl rfl Tryz.func27 (by kernel_rfl) rfl #[.int .i64 (a0.size : Int),.int .i64 1,.int .i64 5] rfl lens ?_;(with_reducible refine (spec_l6In.calls (a0.size : Int) 1 5 true _ A2.out).mono ?_);rintro e w' ⟨rfl,⟨nd,rfl⟩⟩;refine ⟨_,rfl,?_⟩;have p5 : 0 ≤ (0 : Int):=(by omega);have q5 : 0 < a0.size:=(by have : (0 : Int) < (a0.size : Int):=of_decide_eq_true asm;omega);have hx5 : ∀ h : 0 < a0.size,((a0[0]'h).toNat : Int) = bt a0 0:=bt_at a0 0;clear p5;have qi5 : (0 < (a0.size : Int)) = True:=eq_true (of_decide_eq_true asm);replace q5:=eq_true q5;have p9 : 0 ≤ (1 : Int):=(by omega);have q9 : 1 < a0.size:=(by have : (1 : Int) < (a0.size : Int):=of_decide_eq_true asm;omega);have hx9 : ∀ h : 1 < a0.size,((a0[1]'h).toNat : Int) = bt a0 1:=bt_at a0 1;clear p9;have qi9 : (1 < (a0.size : Int)) = True:=eq_true (of_decide_eq_true asm);replace q9:=eq_true q9)|(go_at_call 80;(with_reducible refine (spec_l1Digit.calls (bt a0 1) t211 _ A10.out).mono ?_);rintro e w' ⟨rfl,⟨nd,rfl⟩⟩;have p31 : 0 ≤ (3 : Int):=(by omega);have q31 : 3 < a0.size:=(by have : (3 : Int) < (a0.size : Int):=of_decide_eq_true asm;omega);have hx31 : ∀ h : 3 < a0.size,((a0[3]'h).toNat : Int) = bt a0 3:=bt_at a0 3;clear p31;have qi31 : (3 < (a0.size : Int)) = True:=eq_true (of_decide_eq_true asm);replace q31:=eq_true q31)|(go_at_call 80;(with_reducible refine (spec_l1Digit.calls (bt a0 3) t215 _ A32.out).mono ?_);rintro e w' ⟨rfl,⟨nd,rfl⟩⟩))
         go_ret
         exact ⟨by first|rfl|(simp;done)|(simp [*];done),drn⟩
        ·rw [if_neg c34] at H
         have c34b0 : decide ((a0.size : Int) < 5) = false:=decide_eq_false c34
         have c34b1 : decide (a0.size < 5) = false:=decide_eq_false (by omega)
         clear c34
         by_cases c35 : 4 < (a0.size : Int)
         ·rw [if_pos c35] at H
          have c35b0 : decide (4 < (a0.size : Int)) = true:=decide_eq_true c35
          have c35b1 : decide (4 < a0.size) = true:=decide_eq_true (by omega)
          clear c35
          replace H:=Option.bind_eq_some_iff.mp H
          obtain ⟨t216,A370,H⟩:=H
          have A37:=m_ A370
          clear A370
          obtain rfl:=Option.some.inj H
          go_enter Tryz.func72,Tryz.ntmps72
          go_wp2_with (first|((with_reducible refine gate_callee (f:=27) rfl ?_);refine goesL_ (some 7) rfl rfl Tryz.func27 (by kernel_rfl) rfl #[.int .i64 (a0.size : Int),.int .i64 1,.int .i64 5] rfl lens ?_;(with_reducible refine (spec_l6In.calls (a0.size : Int) 1 5 true _ A2.out).mono ?_);rintro e w' ⟨rfl,⟨nd,rfl⟩⟩;refine ⟨_,rfl,?_⟩;have p5 : 0 ≤ (0 : Int):=(by omega);have q5 : 0 < a0.size:=(by have : (0 : Int) < (a0.size : Int):=of_decide_eq_true asm;omega);have hx5 : ∀ h : 0 < a0.size,((a0[0]'h).toNat : Int) = bt a0 0:=bt_at a0 0;clear p5;have qi5 : (0 < (a0.size : Int)) = True:=eq_true (of_decide_eq_true asm);replace q5:=eq_true q5;have p9 : 0 ≤ (1 : Int):=(by omega);have q9 : 1 < a0.size:=(by have : (1 : Int) < (a0.size : Int):=of_decide_eq_true asm;omega);have hx9 : ∀ h : 1 < a0.size,((a0[1]'h).toNat : Int) = bt a0 1:=bt_at a0 1;clear p9;have qi9 : (1 < (a0.size : Int)) = True:=eq_true (of_decide_eq_true asm);replace q9:=eq_true q9)|(go_at_call 80;(with_reducible refine (spec_l1Digit.calls (bt a0 1) t211 _ A10.out).mono ?_);rintro e w' ⟨rfl,⟨nd,rfl⟩⟩;have p31 : 0 ≤ (3 : Int):=(by omega);have q31 : 3 < a0.size:=(by have : (3 : Int) < (a0.size : Int):=of_decide_eq_true asm;omega);have hx31 : ∀ h : 3 < a0.size,((a0[3]'h).toNat : Int) = bt a0 3:=bt_at a0 3;clear p31;have qi31 : (3 < (a0.size : Int)) = True:=eq_true (of_decide_eq_true asm);replace q31:=eq_true q31)|(go_at_call 80;(with_reducible refine (spec_l1Digit.calls (bt a0 3) t215 _ A32.out).mono ?_);rintro e w' ⟨rfl,⟨nd,rfl⟩⟩;have p36 : 0 ≤ (4 : Int):=(by omega);have q36 : 4 < a0.size:=(by have : (4 : Int) < (a0.size : Int):=of_decide_eq_true asm;omega);have hx36 : ∀ h : 4 < a0.size,((a0[4]'h).toNat : Int) = bt a0 4:=bt_at a0 4;clear p36;have qi36 : (4 < (a0.size : Int)) = True:=eq_true (of_decide_eq_true asm);replace q36:=eq_true q36)|(go_at_call 80;(with_reducible refine (spec_l1Digit.calls (bt a0 4) t216 _ A37.out).mono ?_);rintro e w' ⟨rfl,⟨nd,rfl⟩⟩))
          go_ret
          exact ⟨by first|rfl|(simp;done)|(simp [*];done),drn⟩
         ·rw [if_neg c35] at H
          exact absurd H (by simp)
      ·rw [if_neg c29] at H
       have c29b0 : decide (3 < (a0.size : Int)) = false:=decide_eq_false c29
       have c29b1 : decide (3 < a0.size) = false:=decide_eq_false (by omega)
       clear c29
       by_cases c38 : (a0.size : Int) < 5
       ·rw [if_pos c38] at H
        have c38b0 : decide ((a0.size : Int) < 5) = true:=decide_eq_true c38
        have c38b1 : decide (a0.size < 5) = true:=decide_eq_true (by omega)
        clear c38
        obtain rfl:=Option.some.inj H
        go_enter Tryz.func72,Tryz.ntmps72
        go_wp2_with (first|((with_reducible refine gate_callee (f:=27) rfl ?_);refine goesL_ (some 7) rfl rfl Tryz.func27 (by kernel_rfl) rfl #[.int .i64 (a0.size : Int),.int .i64 1,.int .i64 5] rfl lens ?_;(with_reducible refine (spec_l6In.calls (a0.size : Int) 1 5 true _ A2.out).mono ?_);rintro e w' ⟨rfl,⟨nd,rfl⟩⟩;refine ⟨_,rfl,?_⟩;have p5 : 0 ≤ (0 : Int):=(by omega);have q5 : 0 < a0.size:=(by have : (0 : Int) < (a0.size : Int):=of_decide_eq_true asm;omega);have hx5 : ∀ h : 0 < a0.size,((a0[0]'h).toNat : Int) = bt a0 0:=bt_at a0 0;clear p5;have qi5 : (0 < (a0.size : Int)) = True:=eq_true (of_decide_eq_true asm);replace q5:=eq_true q5;have p9 : 0 ≤ (1 : Int):=(by omega);have q9 : 1 < a0.size:=(by have : (1 : Int) < (a0.size : Int):=of_decide_eq_true asm;omega);have hx9 : ∀ h : 1 < a0.size,((a0[1]'h).toNat : Int) = bt a0 1:=bt_at a0 1;clear p9;have qi9 : (1 < (a0.size : Int)) = True:=eq_true (of_decide_eq_true asm);replace q9:=eq_true q9)|(go_at_call 80;(with_reducible refine (spec_l1Digit.calls (bt a0 1) t211 _ A10.out).mono ?_);rintro e w' ⟨rfl,⟨nd,rfl⟩⟩))
        go_ret
        exact ⟨by first|rfl|(simp;done)|(simp [*];done),drn⟩
       ·rw [if_neg c38] at H
        have c38b0 : decide ((a0.size : Int) < 5) = false:=decide_eq_false c38
        have c38b1 : decide (a0.size < 5) = false:=decide_eq_false (by omega)
        clear c38
        by_cases c39 : 4 < (a0.size : Int)
        ·rw [if_pos c39] at H
         have c39b0 : decide (4 < (a0.size : Int)) = true:=decide_eq_true c39
         have c39b1 : decide (4 < a0.size) = true:=decide_eq_true (by omega)
         clear c39
         replace H:=Option.bind_eq_some_iff.mp H
         obtain ⟨t217,A410,H⟩:=H
         have A41:=m_ A410
         clear A410
         obtain rfl:=Option.some.inj H
         go_enter Tryz.func72,Tryz.ntmps72
         go_wp2_with (first|((with_reducible refine gate_callee (f:=27) rfl ?_);refine goesL_ (some 7) rfl rfl Tryz.func27 (by kernel_rfl) rfl #[.int .i64 (a0.size : Int),.int .i64 1,.int .i64 5] rfl lens ?_;(with_reducible refine (spec_l6In.calls (a0.size : Int) 1 5 true _ A2.out).mono ?_);rintro e w' ⟨rfl,⟨nd,rfl⟩⟩;refine ⟨_,rfl,?_⟩;have p5 : 0 ≤ (0 : Int):=(by omega);have q5 : 0 < a0.size:=(by have : (0 : Int) < (a0.size : Int):=of_decide_eq_true asm;omega);have hx5 : ∀ h : 0 < a0.size,((a0[0]'h).toNat : Int) = bt a0 0:=bt_at a0 0;clear p5;have qi5 : (0 < (a0.size : Int)) = True:=eq_true (of_decide_eq_true asm);replace q5:=eq_true q5;have p9 : 0 ≤ (1 : Int):=(by omega);have q9 : 1 < a0.size:=(by have : (1 : Int) < (a0.size : Int):=of_decide_eq_true asm;omega);have hx9 : ∀ h : 1 < a0.size,((a0[1]'h).toNat : Int) = bt a0 1:=bt_at a0 1;clear p9;have qi9 : (1 < (a0.size : Int)) = True:=eq_true (of_decide_eq_true asm);replace q9:=eq_true q9)|(go_at_call 80;(with_reducible refine (spec_l1Digit.calls (bt a0 1) t211 _ A10.out).mono ?_);rintro e w' ⟨rfl,⟨nd,rfl⟩⟩;have p40 : 0 ≤ (4 : Int):=(by omega);have q40 : 4 < a0.size:=(by have : (4 : Int) < (a0.size : Int):=of_decide_eq_true asm;omega);have hx40 : ∀ h : 4 < a0.size,((a0[4]'h).toNat : Int) = bt a0 4:=bt_at a0 4;clear p40;have qi40 : (4 < (a0.size : Int)) = True:=eq_true (of_decide_eq_true asm);replace q40:=eq_true q40)|(go_at_call 80;(with_reducible refine (spec_l1Digit.calls (bt a0 4) t217 _ A41.out).mono ?_);rintro e w' ⟨rfl,⟨nd,rfl⟩⟩))
         go_ret
         exact ⟨by first|rfl|(simp;done)|(simp [*];done),drn⟩
        ·rw [if_neg c39] at H
         exact absurd H (by simp)
   ·rw [if_neg c7] at H
    have c7b0 : decide (1 < (a0.size : Int)) = false:=decide_eq_false c7
    have c7b1 : decide (1 < a0.size) = false:=decide_eq_false (by omega)
    clear c7
    by_cases c42 : (a0.size : Int) > 2
    ·rw [if_pos c42] at H
     have c42b0 : decide (2 < (a0.size : Int)) = true:=decide_eq_true c42
     have c42b1 : decide (2 < a0.size) = true:=decide_eq_true (by omega)
     clear c42
     by_cases c43 : 2 < (a0.size : Int)
     rotate_left
     ·rw [if_neg c43] at H
      exact absurd H (by simp)
     rw [if_pos c43] at H
     have c43b0 : decide (2 < (a0.size : Int)) = true:=decide_eq_true c43
     have c43b1 : decide (2 < a0.size) = true:=decide_eq_true (by omega)
     clear c43
     by_cases c45 : (bt a0 2) = 58
     ·rw [if_pos c45] at H
      have c45b0 : ((bt a0 2) == 58) = true:=beq_iff_eq.mpr c45
      have c45b1 : ((bt a0 2) != 58) = false:=bne_eq_false_iff_eq.mpr c45
      clear c45
      by_cases c46 : (a0.size : Int) > 3
      ·rw [if_pos c46] at H
       have c46b0 : decide (3 < (a0.size : Int)) = true:=decide_eq_true c46
       have c46b1 : decide (3 < a0.size) = true:=decide_eq_true (by omega)
       clear c46
       by_cases c47 : 3 < (a0.size : Int)
       rotate_left
       ·rw [if_neg c47] at H
        exact absurd H (by simp)
       rw [if_pos c47] at H
       have c47b0 : decide (3 < (a0.size : Int)) = true:=decide_eq_true c47
       have c47b1 : decide (3 < a0.size) = true:=decide_eq_true (by omega)
       clear c47
       replace H:=Option.bind_eq_some_iff.mp H
       obtain ⟨t218,A490,H⟩:=H
       have A49:=m_ A490
       clear A490
       by_cases c50 : t218 < 1
       ·rw [if_pos c50] at H
        have c50b0 : decide (t218 < 1) = true:=decide_eq_true c50
        clear c50
        obtain rfl:=Option.some.inj H
        go_enter Tryz.func72,Tryz.ntmps72
        go_wp2_with (first|((with_reducible refine gate_callee (f:=27) rfl ?_);refine goesL_ (some 7) rfl rfl Tryz.func27 (by kernel_rfl) rfl #[.int .i64 (a0.size : Int),.int .i64 1,.int .i64 5] rfl lens ?_;(with_reducible refine (spec_l6In.calls (a0.size : Int) 1 5 true _ A2.out).mono ?_);rintro e w' ⟨rfl,⟨nd,rfl⟩⟩;refine ⟨_,rfl,?_⟩;have p5 : 0 ≤ (0 : Int):=(by omega);have q5 : 0 < a0.size:=(by have : (0 : Int) < (a0.size : Int):=of_decide_eq_true asm;omega);have hx5 : ∀ h : 0 < a0.size,((a0[0]'h).toNat : Int) = bt a0 0:=bt_at a0 0;clear p5;have qi5 : (0 < (a0.size : Int)) = True:=eq_true (of_decide_eq_true asm);replace q5:=eq_true q5;have p44 : 0 ≤ (2 : Int):=(by omega);have q44 : 2 < a0.size:=(by have : (2 : Int) < (a0.size : Int):=of_decide_eq_true asm;omega);have hx44 : ∀ h : 2 < a0.size,((a0[2]'h).toNat : Int) = bt a0 2:=bt_at a0 2;clear p44;have qi44 : (2 < (a0.size : Int)) = True:=eq_true (of_decide_eq_true asm);replace q44:=eq_true q44;have p48 : 0 ≤ (3 : Int):=(by omega);have q48 : 3 < a0.size:=(by have : (3 : Int) < (a0.size : Int):=of_decide_eq_true asm;omega);have hx48 : ∀ h : 3 < a0.size,((a0[3]'h).toNat : Int) = bt a0 3:=bt_at a0 3;clear p48;have qi48 : (3 < (a0.size : Int)) = True:=eq_true (of_decide_eq_true asm);replace q48:=eq_true q48)|(go_at_call 80;(with_reducible refine (spec_l1Digit.calls (bt a0 3) t218 _ A49.out).mono ?_);rintro e w' ⟨rfl,⟨nd,rfl⟩⟩))
        go_ret
        exact ⟨by first|rfl|(simp;done)|(simp [*];done),drn⟩
       ·rw [if_neg c50] at H
        have c50b0 : decide (t218 < 1) = false:=decide_eq_false c50
        clear c50
        by_cases c51 : (a0.size : Int) < 5
        ·rw [if_pos c51] at H
         have c51b0 : decide ((a0.size : Int) < 5) = true:=decide_eq_true c51
         have c51b1 : decide (a0.size < 5) = true:=decide_eq_true (by omega)
         clear c51
         obtain rfl:=Option.some.inj H
         go_enter Tryz.func72,Tryz.ntmps72
         go_wp2_with (first|((with_reducible refine gate_callee (f:=27) rfl ?_);refine goesL_ (some 7) rfl rfl Tryz.func27 (by kernel_rfl) rfl #[.int .i64 (a0.size : Int),.int .i64 1,.int .i64 5] rfl lens ?_;(with_reducible refine (spec_l6In.calls (a0.size : Int) 1 5 true _ A2.out).mono ?_);rintro e w' ⟨rfl,⟨nd,rfl⟩⟩;refine ⟨_,rfl,?_⟩;have p5 : 0 ≤ (0 : Int):=(by omega);have q5 : 0 < a0.size:=(by have : (0 : Int) < (a0.size : Int):=of_decide_eq_true asm;omega);have hx5 : ∀ h : 0 < a0.size,((a0[0]'h).toNat : Int) = bt a0 0:=bt_at a0 0;clear p5;have qi5 : (0 < (a0.size : Int)) = True:=eq_true (of_decide_eq_true asm);replace q5:=eq_true q5;have p44 : 0 ≤ (2 : Int):=(by omega);have q44 : 2 < a0.size:=(by have : (2 : Int) < (a0.size : Int):=of_decide_eq_true asm;omega);have hx44 : ∀ h : 2 < a0.size,((a0[2]'h).toNat : Int) = bt a0 2:=bt_at a0 2;clear p44;have qi44 : (2 < (a0.size : Int)) = True:=eq_true (of_decide_eq_true asm);replace q44:=eq_true q44;have p48 : 0 ≤ (3 : Int):=(by omega);have q48 : 3 < a0.size:=(by have : (3 : Int) < (a0.size : Int):=of_decide_eq_true asm;omega);have hx48 : ∀ h : 3 < a0.size,((a0[3]'h).toNat : Int) = bt a0 3:=bt_at a0 3;clear p48;have qi48 : (3 < (a0.size : Int)) = True:=eq_true (of_decide_eq_true asm);replace q48:=eq_true q48)|(go_at_call 80;(with_reducible refine (spec_l1Digit.calls (bt a0 3) t218 _ A49.out).mono ?_);rintro e w' ⟨rfl,⟨nd,rfl⟩⟩))
         go_ret
         exact ⟨by first|rfl|(simp;done)|(simp [*];done),drn⟩
        ·rw [if_neg c51] at H
         have c51b0 : decide ((a0.size : Int) < 5) = false:=decide_eq_false c51
         have c51b1 : decide (a0.size < 5) = false:=decide_eq_false (by omega)
         clear c51
         by_cases c52 : 4 < (a0.size : Int)
         ·rw [if_pos c52] at H
          have c52b0 : decide (4 < (a0.size : Int)) = true:=decide_eq_true c52
          have c52b1 : decide (4 < a0.size) = true:=decide_eq_true (by omega)
          clear c52
          replace H:=Option.bind_eq_some_iff.mp H
          obtain ⟨t219,A540,H⟩:=H
          have A54:=m_ A540
          clear A540
          obtain rfl:=Option.some.inj H
          go_enter Tryz.func72,Tryz.ntmps72
          go_wp2_with (first|((with_reducible refine gate_callee (f:=27) rfl ?_);refine goesL_ (some 7) rfl rfl Tryz.func27 (by kernel_rfl) rfl #[.int .i64 (a0.size : Int),.int .i64 1,.int .i64 5] rfl lens ?_;(with_reducible refine (spec_l6In.calls (a0.size : Int) 1 5 true _ A2.out).mono ?_);rintro e w' ⟨rfl,⟨nd,rfl⟩⟩;refine ⟨_,rfl,?_⟩;have p5 : 0 ≤ (0 : Int):=(by omega);have q5 : 0 < a0.size:=(by have : (0 : Int) < (a0.size : Int):=of_decide_eq_true asm;omega);have hx5 : ∀ h : 0 < a0.size,((a0[0]'h).toNat : Int) = bt a0 0:=bt_at a0 0;clear p5;have qi5 : (0 < (a0.size : Int)) = True:=eq_true (of_decide_eq_true asm);replace q5:=eq_true q5;have p44 : 0 ≤ (2 : Int):=(by omega);have q44 : 2 < a0.size:=(by have : (2 : Int) < (a0.size : Int):=of_decide_eq_true asm;omega);have hx44 : ∀ h : 2 < a0.size,((a0[2]'h).toNat : Int) = bt a0 2:=bt_at a0 2;clear p44;have qi44 : (2 < (a0.size : Int)) = True:=eq_true (of_decide_eq_true asm);replace q44:=eq_true q44;have p48 : 0 ≤ (3 : Int):=(by omega);have q48 : 3 < a0.size:=(by have : (3 : Int) < (a0.size : Int):=of_decide_eq_true asm;omega);have hx48 : ∀ h : 3 < a0.size,((a0[3]'h).toNat : Int) = bt a0 3:=bt_at a0 3;clear p48;have qi48 : (3 < (a0.size : Int)) = True:=eq_true (of_decide_eq_true asm);replace q48:=eq_true q48)|(go_at_call 80;(with_reducible refine (spec_l1Digit.calls (bt a0 3) t218 _ A49.out).mono ?_);rintro e w' ⟨rfl,⟨nd,rfl⟩⟩;have p53 : 0 ≤ (4 : Int):=(by omega);have q53 : 4 < a0.size:=(by have : (4 : Int) < (a0.size : Int):=of_decide_eq_true asm;omega);have hx53 : ∀ h : 4 < a0.size,((a0[4]'h).toNat : Int) = bt a0 4:=bt_at a0 4;clear p53;have qi53 : (4 < (a0.size : Int)) = True:=eq_true (of_decide_eq_true asm);replace q53:=eq_true q53)|(go_at_call 80;(with_reducible refine (spec_l1Digit.calls (bt a0 4) t219 _ A54.out).mono ?_);rintro e w' ⟨rfl,⟨nd,rfl⟩⟩))
          go_ret
          exact ⟨by first|rfl|(simp;done)|(simp [*];done),drn⟩
         ·rw [if_neg c52] at H
          exact absurd H (by simp)
      ·rw [if_neg c46] at H
       have c46b0 : decide (3 < (a0.size : Int)) = false:=decide_eq_false c46
       have c46b1 : decide (3 < a0.size) = false:=decide_eq_false (by omega)
       clear c46
       by_cases c55 : (a0.size : Int) < 5
       ·rw [if_pos c55] at H
        have c55b0 : decide ((a0.size : Int) < 5) = true:=decide_eq_true c55
        have c55b1 : decide (a0.size < 5) = true:=decide_eq_true (by omega)
        clear c55
        obtain rfl:=Option.some.inj H
        go_enter Tryz.func72,Tryz.ntmps72
        go_wp2_with (first|((with_reducible refine gate_callee (f:=27) rfl ?_);refine goesL_ (some 7) rfl rfl Tryz.func27 (by kernel_rfl) rfl #[.int .i64 (a0.size : Int),.int .i64 1,.int .i64 5] rfl lens ?_;(with_reducible refine (spec_l6In.calls (a0.size : Int) 1 5 true _ A2.out).mono ?_);rintro e w' ⟨rfl,⟨nd,rfl⟩⟩;refine ⟨_,rfl,?_⟩;have p5 : 0 ≤ (0 : Int):=(by omega);have q5 : 0 < a0.size:=(by have : (0 : Int) < (a0.size : Int):=of_decide_eq_true asm;omega);have hx5 : ∀ h : 0 < a0.size,((a0[0]'h).toNat : Int) = bt a0 0:=bt_at a0 0;clear p5;have qi5 : (0 < (a0.size : Int)) = True:=eq_true (of_decide_eq_true asm);replace q5:=eq_true q5;have p44 : 0 ≤ (2 : Int):=(by omega);have q44 : 2 < a0.size:=(by have : (2 : Int) < (a0.size : Int):=of_decide_eq_true asm;omega);have hx44 : ∀ h : 2 < a0.size,((a0[2]'h).toNat : Int) = bt a0 2:=bt_at a0 2;clear p44;have qi44 : (2 < (a0.size : Int)) = True:=eq_true (of_decide_eq_true asm);replace q44:=eq_true q44))
        go_ret
        exact ⟨by first|rfl|(simp;done)|(simp [*];done),drn⟩
       ·rw [if_neg c55] at H
        have c55b0 : decide ((a0.size : Int) < 5) = false:=decide_eq_false c55
        have c55b1 : decide (a0.size < 5) = false:=decide_eq_false (by omega)
        clear c55
        by_cases c56 : 4 < (a0.size : Int)
        ·rw [if_pos c56] at H
         have c56b0 : decide (4 < (a0.size : Int)) = true:=decide_eq_true c56
         have c56b1 : decide (4 < a0.size) = true:=decide_eq_true (by omega)
         clear c56
         replace H:=Option.bind_eq_some_iff.mp H
         obtain ⟨t220,A580,H⟩:=H
         have A58:=m_ A580
         clear A580
         obtain rfl:=Option.some.inj H
         go_enter Tryz.func72,Tryz.ntmps72
         go_wp2_with (first|((with_reducible refine gate_callee (f:=27) rfl ?_);refine goesL_ (some 7) rfl rfl Tryz.func27 (by kernel_rfl) rfl #[.int .i64 (a0.size : Int),.int .i64 1,.int .i64 5] rfl lens ?_;(with_reducible refine (spec_l6In.calls (a0.size : Int) 1 5 true _ A2.out).mono ?_);rintro e w' ⟨rfl,⟨nd,rfl⟩⟩;refine ⟨_,rfl,?_⟩;have p5 : 0 ≤ (0 : Int):=(by omega);have q5 : 0 < a0.size:=(by have : (0 : Int) < (a0.size : Int):=of_decide_eq_true asm;omega);have hx5 : ∀ h : 0 < a0.size,((a0[0]'h).toNat : Int) = bt a0 0:=bt_at a0 0;clear p5;have qi5 : (0 < (a0.size : Int)) = True:=eq_true (of_decide_eq_true asm);replace q5:=eq_true q5;have p44 : 0 ≤ (2 : Int):=(by omega);have q44 : 2 < a0.size:=(by have : (2 : Int) < (a0.size : Int):=of_decide_eq_true asm;omega);have hx44 : ∀ h : 2 < a0.size,((a0[2]'h).toNat : Int) = bt a0 2:=bt_at a0 2;clear p44;have qi44 : (2 < (a0.size : Int)) = True:=eq_true (of_decide_eq_true asm);replace q44:=eq_true q44;have p57 : 0 ≤ (4 : Int):=(by omega);have q57 : 4 < a0.size:=(by have : (4 : Int) < (a0.size : Int):=of_decide_eq_true asm;omega);have hx57 : ∀ h : 4 < a0.size,((a0[4]'h).toNat : Int) = bt a0 4:=bt_at a0 4;clear p57;have qi57 : (4 < (a0.size : Int)) = True:=eq_true (of_decide_eq_true asm);replace q57:=eq_true q57)|(go_at_call 80;(with_reducible refine (spec_l1Digit.calls (bt a0 4) t220 _ A58.out).mono ?_);rintro e w' ⟨rfl,⟨nd,rfl⟩⟩))
         go_ret
         exact ⟨by first|rfl|(simp;done)|(simp [*];done),drn⟩
        ·rw [if_neg c56] at H
         exact absurd H (by simp)
     ·rw [if_neg c45] at H
      have c45b0 : ((bt a0 2) == 58) = false:=beq_eq_false_iff_ne.mpr c45
      have c45b1 : ((bt a0 2) != 58) = true:=bne_iff_ne.mpr c45
      obtain rfl:=Option.some.inj H
      go_enter Tryz.func72,Tryz.ntmps72
      go_wp2_with (first|((with_reducible refine gate_callee (f:=27) rfl ?_);refine goesL_ (some 7) rfl rfl Tryz.func27 (by kernel_rfl) rfl #[.int .i64 (a0.size : Int),.int .i64 1,.int .i64 5] rfl lens ?_;(with_reducible refine (spec_l6In.calls (a0.size : Int) 1 5 true _ A2.out).mono ?_);rintro e w' ⟨rfl,⟨nd,rfl⟩⟩;refine ⟨_,rfl,?_⟩;have p5 : 0 ≤ (0 : Int):=(by omega);have q5 : 0 < a0.size:=(by have : (0 : Int) < (a0.size : Int):=of_decide_eq_true asm;omega);have hx5 : ∀ h : 0 < a0.size,((a0[0]'h).toNat : Int) = bt a0 0:=bt_at a0 0;clear p5;have qi5 : (0 < (a0.size : Int)) = True:=eq_true (of_decide_eq_true asm);replace q5:=eq_true q5;have p44 : 0 ≤ (2 : Int):=(by omega);have q44 : 2 < a0.size:=(by have : (2 : Int) < (a0.size : Int):=of_decide_eq_true asm;omega);have hx44 : ∀ h : 2 < a0.size,((a0[2]'h).toNat : Int) = bt a0 2:=bt_at a0 2;clear p44;have qi44 : (2 < (a0.size : Int)) = True:=eq_true (of_decide_eq_true asm);replace q44:=eq_true q44))
      go_ret
      exact ⟨by first|rfl|(simp;done)|(simp [*];done),drn⟩
    ·rw [if_neg c42] at H
     have c42b0 : decide (2 < (a0.size : Int)) = false:=decide_eq_false c42
     have c42b1 : decide (2 < a0.size) = false:=decide_eq_false (by omega)
     clear c42
     by_cases c59 : (a0.size : Int) > 3
     ·rw [if_pos c59] at H
      have c59b0 : decide (3 < (a0.size : Int)) = true:=decide_eq_true c59
      have c59b1 : decide (3 < a0.size) = true:=decide_eq_true (by omega)
      clear c59
      by_cases c60 : 3 < (a0.size : Int)
      rotate_left
      ·rw [if_neg c60] at H
       exact absurd H (by simp)
      rw [if_pos c60] at H
      have c60b0 : decide (3 < (a0.size : Int)) = true:=decide_eq_true c60
      have c60b1 : decide (3 < a0.size) = true:=decide_eq_true (by omega)
      clear c60
      replace H:=Option.bind_eq_some_iff.mp H
      obtain ⟨t221,A620,H⟩:=H
      have A62:=m_ A620
      clear A620
      by_cases c63 : t221 < 1
      ·rw [if_pos c63] at H
       have c63b0 : decide (t221 < 1) = true:=decide_eq_true c63
       clear c63
       obtain rfl:=Option.some.inj H
       go_enter Tryz.func72,Tryz.ntmps72
       go_wp2_with (first|((with_reducible refine gate_callee (f:=27) rfl ?_);refine goesL_ (some 7) rfl rfl Tryz.func27 (by kernel_rfl) rfl #[.int .i64 (a0.size : Int),.int .i64 1,.int .i64 5] rfl lens ?_;(with_reducible refine (spec_l6In.calls (a0.size : Int) 1 5 true _ A2.out).mono ?_);rintro e w' ⟨rfl,⟨nd,rfl⟩⟩;refine ⟨_,rfl,?_⟩;have p5 : 0 ≤ (0 : Int):=(by omega);have q5 : 0 < a0.size:=(by have : (0 : Int) < (a0.size : Int):=of_decide_eq_true asm;omega);have hx5 : ∀ h : 0 < a0.size,((a0[0]'h).toNat : Int) = bt a0 0:=bt_at a0 0;clear p5;have qi5 : (0 < (a0.size : Int)) = True:=eq_true (of_decide_eq_true asm);replace q5:=eq_true q5;have p61 : 0 ≤ (3 : Int):=(by omega);have q61 : 3 < a0.size:=(by have : (3 : Int) < (a0.size : Int):=of_decide_eq_true asm;omega);have hx61 : ∀ h : 3 < a0.size,((a0[3]'h).toNat : Int) = bt a0 3:=bt_at a0 3;clear p61;have qi61 : (3 < (a0.size : Int)) = True:=eq_true (of_decide_eq_true asm);replace q61:=eq_true q61)|(go_at_call 80;(with_reducible refine (spec_l1Digit.calls (bt a0 3) t221 _ A62.out).mono ?_);rintro e w' ⟨rfl,⟨nd,rfl⟩⟩))
       go_ret
       exact ⟨by first|rfl|(simp;done)|(simp [*];done),drn⟩
      ·rw [if_neg c63] at H
       have c63b0 : decide (t221 < 1) = false:=decide_eq_false c63
       clear c63
       by_cases c64 : (a0.size : Int) < 5
       ·rw [if_pos c64] at H
        have c64b0 : decide ((a0.size : Int) < 5) = true:=decide_eq_true c64
        have c64b1 : decide (a0.size < 5) = true:=decide_eq_true (by omega)
        clear c64
        obtain rfl:=Option.some.inj H
        go_enter Tryz.func72,Tryz.ntmps72
        go_wp2_with (first|((with_reducible refine gate_callee (f:=27) rfl ?_);refine goesL_ (some 7) rfl rfl Tryz.func27 (by kernel_rfl) rfl #[.int .i64 (a0.size : Int),.int .i64 1,.int .i64 5] rfl lens ?_;(with_reducible refine (spec_l6In.calls (a0.size : Int) 1 5 true _ A2.out).mono ?_);rintro e w' ⟨rfl,⟨nd,rfl⟩⟩;refine ⟨_,rfl,?_⟩;have p5 : 0 ≤ (0 : Int):=(by omega);have q5 : 0 < a0.size:=(by have : (0 : Int) < (a0.size : Int):=of_decide_eq_true asm;omega);have hx5 : ∀ h : 0 < a0.size,((a0[0]'h).toNat : Int) = bt a0 0:=bt_at a0 0;clear p5;have qi5 : (0 < (a0.size : Int)) = True:=eq_true (of_decide_eq_true asm);replace q5:=eq_true q5;have p61 : 0 ≤ (3 : Int):=(by omega);have q61 : 3 < a0.size:=(by have : (3 : Int) < (a0.size : Int):=of_decide_eq_true asm;omega);have hx61 : ∀ h : 3 < a0.size,((a0[3]'h).toNat : Int) = bt a0 3:=bt_at a0 3;clear p61;have qi61 : (3 < (a0.size : Int)) = True:=eq_true (of_decide_eq_true asm);replace q61:=eq_true q61)|(go_at_call 80;(with_reducible refine (spec_l1Digit.calls (bt a0 3) t221 _ A62.out).mono ?_);rintro e w' ⟨rfl,⟨nd,rfl⟩⟩))
        go_ret
        exact ⟨by first|rfl|(simp;done)|(simp [*];done),drn⟩
       ·rw [if_neg c64] at H
        have c64b0 : decide ((a0.size : Int) < 5) = false:=decide_eq_false c64
        have c64b1 : decide (a0.size < 5) = false:=decide_eq_false (by omega)
        clear c64
        by_cases c65 : 4 < (a0.size : Int)
        ·rw [if_pos c65] at H
         have c65b0 : decide (4 < (a0.size : Int)) = true:=decide_eq_true c65
         have c65b1 : decide (4 < a0.size) = true:=decide_eq_true (by omega)
         clear c65
         replace H:=Option.bind_eq_some_iff.mp H
         obtain ⟨t222,A670,H⟩:=H
         have A67:=m_ A670
         clear A670
         obtain rfl:=Option.some.inj H
         go_enter Tryz.func72,Tryz.ntmps72
         go_wp2_with (first|((with_reducible refine gate_callee (f:=27) rfl ?_);refine goesL_ (some 7) rfl rfl Tryz.func27 (by kernel_rfl) rfl #[.int .i64 (a0.size : Int),.int .i64 1,.int .i64 5] rfl lens ?_;(with_reducible refine (spec_l6In.calls (a0.size : Int) 1 5 true _ A2.out).mono ?_);rintro e w' ⟨rfl,⟨nd,rfl⟩⟩;refine ⟨_,rfl,?_⟩;have p5 : 0 ≤ (0 : Int):=(by omega);have q5 : 0 < a0.size:=(by have : (0 : Int) < (a0.size : Int):=of_decide_eq_true asm;omega);have hx5 : ∀ h : 0 < a0.size,((a0[0]'h).toNat : Int) = bt a0 0:=bt_at a0 0;clear p5;have qi5 : (0 < (a0.size : Int)) = True:=eq_true (of_decide_eq_true asm);replace q5:=eq_true q5;have p61 : 0 ≤ (3 : Int):=(by omega);have q61 : 3 < a0.size:=(by have : (3 : Int) < (a0.size : Int):=of_decide_eq_true asm;omega);have hx61 : ∀ h : 3 < a0.size,((a0[3]'h).toNat : Int) = bt a0 3:=bt_at a0 3;clear p61;have qi61 : (3 < (a0.size : Int)) = True:=eq_true (of_decide_eq_true asm);replace q61:=eq_true q61)|(go_at_call 80;(with_reducible refine (spec_l1Digit.calls (bt a0 3) t221 _ A62.out).mono ?_);rintro e w' ⟨rfl,⟨nd,rfl⟩⟩;have p66 : 0 ≤ (4 : Int):=(by omega);have q66 : 4 < a0.size:=(by have : (4 : Int) < (a0.size : Int):=of_decide_eq_true asm;omega);have hx66 : ∀ h : 4 < a0.size,((a0[4]'h).toNat : Int) = bt a0 4:=bt_at a0 4;clear p66;have qi66 : (4 < (a0.size : Int)) = True:=eq_true (of_decide_eq_true asm);replace q66:=eq_true q66)|(go_at_call 80;(with_reducible refine (spec_l1Digit.calls (bt a0 4) t222 _ A67.out).mono ?_);rintro e w' ⟨rfl,⟨nd,rfl⟩⟩))
         go_ret
         exact ⟨by first|rfl|(simp;done)|(simp [*];done),drn⟩
        ·rw [if_neg c65] at H
         exact absurd H (by simp)
     ·rw [if_neg c59] at H
      have c59b0 : decide (3 < (a0.size : Int)) = false:=decide_eq_false c59
      have c59b1 : decide (3 < a0.size) = false:=decide_eq_false (by omega)
      clear c59
      by_cases c68 : (a0.size : Int) < 5
      ·rw [if_pos c68] at H
       have c68b0 : decide ((a0.size : Int) < 5) = true:=decide_eq_true c68
       have c68b1 : decide (a0.size < 5) = true:=decide_eq_true (by omega)
       clear c68
       obtain rfl:=Option.some.inj H
       go_enter Tryz.func72,Tryz.ntmps72
       go_wp2_with (first|((with_reducible refine gate_callee (f:=27) rfl ?_);refine goesL_ (some 7) rfl rfl Tryz.func27 (by kernel_rfl) rfl #[.int .i64 (a0.size : Int),.int .i64 1,.int .i64 5] rfl lens ?_;(with_reducible refine (spec_l6In.calls (a0.size : Int) 1 5 true _ A2.out).mono ?_);rintro e w' ⟨rfl,⟨nd,rfl⟩⟩;refine ⟨_,rfl,?_⟩;have p5 : 0 ≤ (0 : Int):=(by omega);have q5 : 0 < a0.size:=(by have : (0 : Int) < (a0.size : Int):=of_decide_eq_true asm;omega);have hx5 : ∀ h : 0 < a0.size,((a0[0]'h).toNat : Int) = bt a0 0:=bt_at a0 0;clear p5;have qi5 : (0 < (a0.size : Int)) = True:=eq_true (of_decide_eq_true asm);replace q5:=eq_true q5))
       go_ret
       exact ⟨by first|rfl|(simp;done)|(simp [*];done),drn⟩
      ·rw [if_neg c68] at H
       have c68b0 : decide ((a0.size : Int) < 5) = false:=decide_eq_false c68
       have c68b1 : decide (a0.size < 5) = false:=decide_eq_false (by omega)
       clear c68
       by_cases c69 : 4 < (a0.size : Int)
       ·rw [if_pos c69] at H
        have c69b0 : decide (4 < (a0.size : Int)) = true:=decide_eq_true c69
        have c69b1 : decide (4 < a0.size) = true:=decide_eq_true (by omega)
        clear c69
        replace H:=Option.bind_eq_some_iff.mp H
        obtain ⟨t223,A710,H⟩:=H
        have A71:=m_ A710
        clear A710
        obtain rfl:=Option.some.inj H
        go_enter Tryz.func72,Tryz.ntmps72
        go_wp2_with (first|((with_reducible refine gate_callee (f:=27) rfl ?_);refine goesL_ (some 7) rfl rfl Tryz.func27 (by kernel_rfl) rfl #[.int .i64 (a0.size : Int),.int .i64 1,.int .i64 5] rfl lens ?_;(with_reducible refine (spec_l6In.calls (a0.size : Int) 1 5 true _ A2.out).mono ?_);rintro e w' ⟨rfl,⟨nd,rfl⟩⟩;refine ⟨_,rfl,?_⟩;have p5 : 0 ≤ (0 : Int):=(by omega);have q5 : 0 < a0.size:=(by have : (0 : Int) < (a0.size : Int):=of_decide_eq_true asm;omega);have hx5 : ∀ h : 0 < a0.size,((a0[0]'h).toNat : Int) = bt a0 0:=bt_at a0 0;clear p5;have qi5 : (0 < (a0.size : Int)) = True:=eq_true (of_decide_eq_true asm);replace q5:=eq_true q5;have p70 : 0 ≤ (4 : Int):=(by omega);have q70 : 4 < a0.size:=(by have : (4 : Int) < (a0.size : Int):=of_decide_eq_true asm;omega);have hx70 : ∀ h : 4 < a0.size,((a0[4]'h).toNat : Int) = bt a0 4:=bt_at a0 4;clear p70;have qi70 : (4 < (a0.size : Int)) = True:=eq_true (of_decide_eq_true asm);replace q70:=eq_true q70)|(go_at_call 80;(with_reducible refine (spec_l1Digit.calls (bt a0 4) t223 _ A71.out).mono ?_);rintro e w' ⟨rfl,⟨nd,rfl⟩⟩))
        go_ret
        exact ⟨by first|rfl|(simp;done)|(simp [*];done),drn⟩
       ·rw [if_neg c69] at H
        exact absurd H (by simp)
  ·rw [if_neg c6] at H
   have c6b0 : ((bt a0 0) == 64) = false:=beq_eq_false_iff_ne.mpr c6
   have c6b1 : ((bt a0 0) != 64) = true:=bne_iff_ne.mpr c6
   obtain rfl:=Option.some.inj H
   go_enter Tryz.func72,Tryz.ntmps72
   go_wp2_with (first|((with_reducible refine gate_callee (f:=27) rfl ?_);refine goesL_ (some 7) rfl rfl Tryz.func27 (by kernel_rfl) rfl #[.int .i64 (a0.size : Int),.int .i64 1,.int .i64 5] rfl lens ?_;(with_reducible refine (spec_l6In.calls (a0.size : Int) 1 5 true _ A2.out).mono ?_);rintro e w' ⟨rfl,⟨nd,rfl⟩⟩;refine ⟨_,rfl,?_⟩;have p5 : 0 ≤ (0 : Int):=(by omega);have q5 : 0 < a0.size:=(by have : (0 : Int) < (a0.size : Int):=of_decide_eq_true asm;omega);have hx5 : ∀ h : 0 < a0.size,((a0[0]'h).toNat : Int) = bt a0 0:=bt_at a0 0;clear p5;have qi5 : (0 < (a0.size : Int)) = True:=eq_true (of_decide_eq_true asm);replace q5:=eq_true q5))
   go_ret
   exact ⟨by first|rfl|(simp;done)|(simp [*];done),drn⟩
 ·replace c3:=Bool.eq_false_iff.mpr c3
  subst c3
  replace H:=ifn H
  obtain rfl:=Option.some.inj H
  go_enter Tryz.func72,Tryz.ntmps72
  go_wp2_with (first|((with_reducible refine gate_callee (f:=27) rfl ?_);refine goesL_ (some 7) rfl rfl Tryz.func27 (by kernel_rfl) rfl #[.int .i64 (a0.size : Int),.int .i64 1,.int .i64 5] rfl lens ?_;(with_reducible refine (spec_l6In.calls (a0.size : Int) 1 5 false _ A2.out).mono ?_);rintro e w' ⟨rfl,⟨nd,rfl⟩⟩;refine ⟨_,rfl,?_⟩))
  go_ret
  exact ⟨by first|rfl|(simp;done)|(simp [*];done),drn⟩

/-! ### spec_l2Held: function 61 -/
def spec_l2Held.l0 : Nat → ByteArray → Int → Option (Int)
 | 0, _, _ => none
 | k + 1, x0, x3 => if x3 > 0 then (if 0 ≤ (wrap64 ((x0.size : Int) - x3)) then (if (wrap64 ((x0.size : Int) - x3)) ≤ (x0.size : Int) then ((spec_l2Begins.f (x0.extract ((wrap64 ((x0.size : Int) - x3)) : Int).toNat x0.size)).bind fun t224 => (if t224 = true then (some x3) else (spec_l2Held.l0 k x0 (wrap64 (x3 - 1))))) else (none)) else (none)) else (some 0)
def spec_l2Held.f (k : Nat) (a0 : ByteArray) : Option (Int) := spec_l2Held.l0 k a0 (mn 5 (a0.size : Int))
theorem spec_l2Held.mono_l : ∀ k, (∀ y0 y1, LeO (spec_l2Held.l0 k y0 y1) (spec_l2Held.l0 (k + 1) y0 y1))
 | 0 => fun _ _ r h => by simp [spec_l2Held.l0] at h
 | k + 1 => by
  have ih0:=spec_l2Held.mono_l k
  ·intro y0 y1
   unfold spec_l2Held.l0
   exact leo1 ih0
theorem spec_l2Held.mono : ∀ a0 k, LeO (spec_l2Held.f k a0) (spec_l2Held.f (k + 1) a0) := by
 intro a0 k
 have ih0:=spec_l2Held.mono_l k
 unfold spec_l2Held.f
 exact leo1 ih0
set_option maxHeartbeats 8000000 in
set_option maxRecDepth 100000 in
theorem spec_l2Held.calls (k : Nat) (a0 : ByteArray) (r : Int) (w : World) (h : spec_l2Held.f k a0 = some r) :
  Calls Tryz.prog 61 #[.string a0] w fun e w'=>e = .returned (.int .i64 r) ∧ Below w.heap.size w w':=by
 have HB:=m_ (Below.refl w.heap.size w)
 have H : (spec_l2Held.l0 k a0 (mn 5 (a0.size : Int))) = some r:=h
 clear h
 obtain ⟨ji2,hji2⟩ : ∃ j_ : Int,(mn 5 (a0.size : Int)) = j_:=⟨_,rfl⟩
 replace H : (spec_l2Held.l0 k a0 ji2) = some r:=by first|(rw [hji2] at H;exact H)|(simp only [hji2] at H ⊢;exact H)
 (try (have hji2h : ji2 ≤ 5:=by (rw [← hji2];unfold mn;(repeat' split) <;> omega)))
 (try (have hji2g : ji2 ≤ 64:=by omega))
 (try (have hji2l : 0 ≤ ji2:=by (rw [← hji2];unfold mn;(repeat' split) <;> omega)))
 (try (have hji2m : 0 ≤ ji2:=by omega))
 have hji2_ : (if (a0.size : Int) < 5 then (a0.size : Int) else 5) = ji2:=hji2
 have H':=m_ H
 clear H
 go_enter Tryz.func61,Tryz.ntmps61
 go_wp2
 go_loopg [3] k (fun kq v3 w'=>∃ (x3_1 : Int),v3 = .int .i64 x3_1 ∧ Aside0 (spec_l2Held.l0 kq a0 x3_1 = some r) ∧ Aside0 (kq ≤ k) ∧ Aside0 (Below w.heap.size w w'))
 case atStart=>exact ⟨(ji2),(by first|rfl|(simp;done)|(simp only [← hji2] <;> (first|rfl|simp))|(simp [*];done)),H',⟨Nat.le_refl _⟩,⟨puL HB.out⟩⟩
 case round =>
  clear H'
  try clear p2
  obtain ⟨x3_1,rfl,HA,HK1,HB⟩:=hrel
  cases gk with
  | zero => exact absurd HA.out (by simp [spec_l2Held.l0])
  | succ k1 =>
   have H:=HA.out
   clear HA
   simp only [spec_l2Held.l0] at H
   by_cases c3 : x3_1 > 0
   ·rw [if_pos c3] at H
    have c3b0 : decide (0 < x3_1) = true:=decide_eq_true c3
    clear c3
    obtain ⟨ji4,hji4⟩ : ∃ j_ : Int,(wrap64 ((a0.size : Int) - x3_1)) = j_:=⟨_,rfl⟩
    replace H : (if 0 ≤ (ji4) then (if (ji4) ≤ (a0.size : Int) then ((spec_l2Begins.f (a0.extract ((ji4) : Int).toNat a0.size)).bind fun t224=>(if t224 = true then (some x3_1) else (spec_l2Held.l0 k1 a0 (wrap64 (x3_1 - 1))))) else (none)) else (none)) = some r:=by first|(rw [hji4] at H;exact H)|(simp only [hji4] at H ⊢;exact H)
    have hji4w : (IntKind.i64.wrap ((a0.size : Int) - x3_1)) = ji4:=(i64_w _).trans hji4
    by_cases c5 : 0 ≤ (ji4)
    rotate_left
    ·rw [if_neg c5] at H
     exact absurd H (by simp)
    rw [if_pos c5] at H
    have c5b0:=eq_true c5
    have c5b1:=decide_eq_true c5
    clear c5
    by_cases c6 : (ji4) ≤ (a0.size : Int)
    rotate_left
    ·rw [if_neg c6] at H
     exact absurd H (by simp)
    rw [if_pos c6] at H
    have c6b0:=eq_true c6
    have c6b1:=decide_eq_true c6
    clear c6
    replace H:=Option.bind_eq_some_iff.mp H
    obtain ⟨t224,A70,H⟩:=H
    have A7:=m_ A70
    clear A70
    by_cases c8 : t224 = true
    ·subst c8
     replace H:=ifp H rfl
     obtain rfl:=Option.some.inj H
     go_wp2_with (first|((with_reducible refine gate_callee (f:=72) rfl ?_);refine goesL_ (some 17) rfl rfl Tryz.func72 (by kernel_rfl) rfl #[.string (a0.extract ((ji4) : Int).toNat a0.size)] rfl (by (try simp only [List.map_toArray,List.map_cons,List.map_nil]);first|done|(simp only [hji4];rfl)|rfl|(simp only [List.length_drop,List.length_take];rfl)) ?_;(with_reducible refine (spec_l2Begins.calls (a0.extract ((ji4) : Int).toNat a0.size) true _ A7.out).mono ?_);rintro e w' ⟨rfl,⟨nd,rfl⟩⟩;refine ⟨_,rfl,?_⟩))
     go_ret
     exact ⟨by first|rfl|(simp [e1_,e2_] <;> rfl)|(simp only [← hji2,← hji4];first|rfl|(simp [e1_,e2_] <;> rfl))|(simp [*,e1_,e2_] <;> rfl)|(simp [e1_,e2_,pk_empty1,pk_empty2];done)|(simp [*,e1_,e2_,pk_empty1,pk_empty2];done),puL HB.out⟩
    ·replace c8:=Bool.eq_false_iff.mpr c8
     subst c8
     replace H:=ifn H
     have H':=m_ H
     clear H
     go_wp2_with (first|((with_reducible refine gate_callee (f:=72) rfl ?_);refine goesL_ (some 17) rfl rfl Tryz.func72 (by kernel_rfl) rfl #[.string (a0.extract ((ji4) : Int).toNat a0.size)] rfl (by (try simp only [List.map_toArray,List.map_cons,List.map_nil]);first|done|(simp only [hji4];rfl)|rfl|(simp only [List.length_drop,List.length_take];rfl)) ?_;(with_reducible refine (spec_l2Begins.calls (a0.extract ((ji4) : Int).toNat a0.size) false _ A7.out).mono ?_);rintro e w' ⟨rfl,⟨nd,rfl⟩⟩;refine ⟨_,rfl,?_⟩))
     go_roundg k1
     case measure=>have:=HK1.out;omega
     case rel=>exact ⟨(wrap64 (x3_1 - 1)),(by first|rfl|(simp;done)|(simp [*];done)),H',⟨by have:=HK1.out;omega⟩,⟨puL HB.out⟩⟩
   ·rw [if_neg c3] at H
    have c3b0 : decide (0 < x3_1) = false:=decide_eq_false c3
    clear c3
    obtain rfl:=Option.some.inj H
    go_wp2
    go_ret
    exact ⟨by first|rfl|(simp [e1_,e2_] <;> rfl)|(simp only [← hji2];first|rfl|(simp [e1_,e2_] <;> rfl))|(simp [*,e1_,e2_] <;> rfl)|(simp [e1_,e2_,pk_empty1,pk_empty2];done)|(simp [*,e1_,e2_,pk_empty1,pk_empty2];done),puL HB.out⟩

end Go.Proofs.YtkcjmmhleepjeaaGreatDoor.A
