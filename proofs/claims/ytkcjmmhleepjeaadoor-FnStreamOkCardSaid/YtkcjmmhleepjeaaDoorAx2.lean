-- Printed by myprint.py (wip/tools) out of the translation. Not trusted: Lean checks it.
import Derived.Test.YtkcjmmhleepjeaaDoorAx0
namespace Go.Proofs.YtkcjmmhleepjeaaDoor.A
open Go.RowKit Go.Proofs.YtkcjmmhleepjeaaDoorW.PrintWords Go.Proofs.YtkcjmmhleepjeaaDoorW.PrintLast Go.Proofs.YtkcjmmhleepjeaaDoorW.PrintMore
attribute [local go_sem] max2_int min2_int max_two min_two max_three min_three max_four min_four
set_option linter.unusedVariables false
set_option maxHeartbeats 8000000
set_option maxRecDepth 100000
set_option linter.unusedSimpArgs false

/-! ### spec_l2Byte: function 42 -/
def spec_l2Byte.f (a0 : Int) : Option (Bool) := if a0 ≥ 97 then (if a0 ≤ 122 then (some true) else (if a0 ≥ 48 then (if a0 ≤ 57 then (some true) else (if a0 = 64 then (some true) else (if a0 = 58 then (some true) else (some (a0 == 59))))) else (if a0 = 64 then (some true) else (if a0 = 58 then (some true) else (some (a0 == 59)))))) else (if a0 ≥ 48 then (if a0 ≤ 57 then (some true) else (if a0 = 64 then (some true) else (if a0 = 58 then (some true) else (some (a0 == 59))))) else (if a0 = 64 then (some true) else (if a0 = 58 then (some true) else (some (a0 == 59)))))
theorem spec_l2Byte.calls (a0 : Int) (r : Bool) (w : World) (h : spec_l2Byte.f a0 = some r) :
  Calls Tryd.prog 42 #[.int .u8 a0] w fun e w'=>e = .returned (.bool r) ∧ Drawn0 w w':=by
 have H : (if a0 ≥ 97 then (if a0 ≤ 122 then (some true) else (if a0 ≥ 48 then (if a0 ≤ 57 then (some true) else (if a0 = 64 then (some true) else (if a0 = 58 then (some true) else (some (a0 == 59))))) else (if a0 = 64 then (some true) else (if a0 = 58 then (some true) else (some (a0 == 59)))))) else (if a0 ≥ 48 then (if a0 ≤ 57 then (some true) else (if a0 = 64 then (some true) else (if a0 = 58 then (some true) else (some (a0 == 59))))) else (if a0 = 64 then (some true) else (if a0 = 58 then (some true) else (some (a0 == 59)))))) = some r:=h
 clear h
 by_cases c2 : a0 ≥ 97
 ·rw [if_pos c2] at H
  have c2b0 : decide (97 ≤ a0) = true:=decide_eq_true c2
  clear c2
  by_cases c3 : a0 ≤ 122
  ·rw [if_pos c3] at H
   have c3b0 : decide (a0 ≤ 122) = true:=decide_eq_true c3
   clear c3
   obtain rfl:=Option.some.inj H
   go_enter Tryd.func42,Tryd.ntmps42
   go_wp2
   go_ret
   exact ⟨by first|rfl|(simp;done)|(simp [*];done),drn⟩
  ·rw [if_neg c3] at H
   have c3b0 : decide (a0 ≤ 122) = false:=decide_eq_false c3
   clear c3
   by_cases c4 : a0 ≥ 48
   ·rw [if_pos c4] at H
    have c4b0 : decide (48 ≤ a0) = true:=decide_eq_true c4
    clear c4
    by_cases c5 : a0 ≤ 57
    ·rw [if_pos c5] at H
     have c5b0 : decide (a0 ≤ 57) = true:=decide_eq_true c5
     clear c5
     obtain rfl:=Option.some.inj H
     go_enter Tryd.func42,Tryd.ntmps42
     go_wp2
     go_ret
     exact ⟨by first|rfl|(simp;done)|(simp [*];done),drn⟩
    ·rw [if_neg c5] at H
     have c5b0 : decide (a0 ≤ 57) = false:=decide_eq_false c5
     clear c5
     by_cases c6 : a0 = 64
     ·rw [if_pos c6] at H
      have c6b0 : (a0 == 64) = true:=beq_iff_eq.mpr c6
      have c6b1 : (a0 != 64) = false:=bne_eq_false_iff_eq.mpr c6
      clear c6
      obtain rfl:=Option.some.inj H
      go_enter Tryd.func42,Tryd.ntmps42
      go_wp2
      go_ret
      exact ⟨by first|rfl|(simp;done)|(simp [*];done),drn⟩
     ·rw [if_neg c6] at H
      have c6b0 : (a0 == 64) = false:=beq_eq_false_iff_ne.mpr c6
      have c6b1 : (a0 != 64) = true:=bne_iff_ne.mpr c6
      by_cases c7 : a0 = 58
      ·rw [if_pos c7] at H
       have c7b0 : (a0 == 58) = true:=beq_iff_eq.mpr c7
       have c7b1 : (a0 != 58) = false:=bne_eq_false_iff_eq.mpr c7
       clear c7
       obtain rfl:=Option.some.inj H
       go_enter Tryd.func42,Tryd.ntmps42
       go_wp2
       go_ret
       exact ⟨by first|rfl|(simp;done)|(simp [*];done),drn⟩
      ·rw [if_neg c7] at H
       have c7b0 : (a0 == 58) = false:=beq_eq_false_iff_ne.mpr c7
       have c7b1 : (a0 != 58) = true:=bne_iff_ne.mpr c7
       obtain rfl:=Option.some.inj H
       go_enter Tryd.func42,Tryd.ntmps42
       go_wp2
       go_ret
       exact ⟨by first|rfl|(simp;done)|(simp [*];done),drn⟩
   ·rw [if_neg c4] at H
    have c4b0 : decide (48 ≤ a0) = false:=decide_eq_false c4
    clear c4
    by_cases c8 : a0 = 64
    ·rw [if_pos c8] at H
     have c8b0 : (a0 == 64) = true:=beq_iff_eq.mpr c8
     have c8b1 : (a0 != 64) = false:=bne_eq_false_iff_eq.mpr c8
     clear c8
     obtain rfl:=Option.some.inj H
     go_enter Tryd.func42,Tryd.ntmps42
     go_wp2
     go_ret
     exact ⟨by first|rfl|(simp;done)|(simp [*];done),drn⟩
    ·rw [if_neg c8] at H
     have c8b0 : (a0 == 64) = false:=beq_eq_false_iff_ne.mpr c8
     have c8b1 : (a0 != 64) = true:=bne_iff_ne.mpr c8
     by_cases c9 : a0 = 58
     ·rw [if_pos c9] at H
      have c9b0 : (a0 == 58) = true:=beq_iff_eq.mpr c9
      have c9b1 : (a0 != 58) = false:=bne_eq_false_iff_eq.mpr c9
      clear c9
      obtain rfl:=Option.some.inj H
      go_enter Tryd.func42,Tryd.ntmps42
      go_wp2
      go_ret
      exact ⟨by first|rfl|(simp;done)|(simp [*];done),drn⟩
     ·rw [if_neg c9] at H
      have c9b0 : (a0 == 58) = false:=beq_eq_false_iff_ne.mpr c9
      have c9b1 : (a0 != 58) = true:=bne_iff_ne.mpr c9
      obtain rfl:=Option.some.inj H
      go_enter Tryd.func42,Tryd.ntmps42
      go_wp2
      go_ret
      exact ⟨by first|rfl|(simp;done)|(simp [*];done),drn⟩
 ·rw [if_neg c2] at H
  have c2b0 : decide (97 ≤ a0) = false:=decide_eq_false c2
  clear c2
  by_cases c10 : a0 ≥ 48
  ·rw [if_pos c10] at H
   have c10b0 : decide (48 ≤ a0) = true:=decide_eq_true c10
   clear c10
   by_cases c11 : a0 ≤ 57
   ·rw [if_pos c11] at H
    have c11b0 : decide (a0 ≤ 57) = true:=decide_eq_true c11
    clear c11
    obtain rfl:=Option.some.inj H
    go_enter Tryd.func42,Tryd.ntmps42
    go_wp2
    go_ret
    exact ⟨by first|rfl|(simp;done)|(simp [*];done),drn⟩
   ·rw [if_neg c11] at H
    have c11b0 : decide (a0 ≤ 57) = false:=decide_eq_false c11
    clear c11
    by_cases c12 : a0 = 64
    ·rw [if_pos c12] at H
     have c12b0 : (a0 == 64) = true:=beq_iff_eq.mpr c12
     have c12b1 : (a0 != 64) = false:=bne_eq_false_iff_eq.mpr c12
     clear c12
     obtain rfl:=Option.some.inj H
     go_enter Tryd.func42,Tryd.ntmps42
     go_wp2
     go_ret
     exact ⟨by first|rfl|(simp;done)|(simp [*];done),drn⟩
    ·rw [if_neg c12] at H
     have c12b0 : (a0 == 64) = false:=beq_eq_false_iff_ne.mpr c12
     have c12b1 : (a0 != 64) = true:=bne_iff_ne.mpr c12
     by_cases c13 : a0 = 58
     ·rw [if_pos c13] at H
      have c13b0 : (a0 == 58) = true:=beq_iff_eq.mpr c13
      have c13b1 : (a0 != 58) = false:=bne_eq_false_iff_eq.mpr c13
      clear c13
      obtain rfl:=Option.some.inj H
      go_enter Tryd.func42,Tryd.ntmps42
      go_wp2
      go_ret
      exact ⟨by first|rfl|(simp;done)|(simp [*];done),drn⟩
     ·rw [if_neg c13] at H
      have c13b0 : (a0 == 58) = false:=beq_eq_false_iff_ne.mpr c13
      have c13b1 : (a0 != 58) = true:=bne_iff_ne.mpr c13
      obtain rfl:=Option.some.inj H
      go_enter Tryd.func42,Tryd.ntmps42
      go_wp2
      go_ret
      exact ⟨by first|rfl|(simp;done)|(simp [*];done),drn⟩
  ·rw [if_neg c10] at H
   have c10b0 : decide (48 ≤ a0) = false:=decide_eq_false c10
   clear c10
   by_cases c14 : a0 = 64
   ·rw [if_pos c14] at H
    have c14b0 : (a0 == 64) = true:=beq_iff_eq.mpr c14
    have c14b1 : (a0 != 64) = false:=bne_eq_false_iff_eq.mpr c14
    clear c14
    obtain rfl:=Option.some.inj H
    go_enter Tryd.func42,Tryd.ntmps42
    go_wp2
    go_ret
    exact ⟨by first|rfl|(simp;done)|(simp [*];done),drn⟩
   ·rw [if_neg c14] at H
    have c14b0 : (a0 == 64) = false:=beq_eq_false_iff_ne.mpr c14
    have c14b1 : (a0 != 64) = true:=bne_iff_ne.mpr c14
    by_cases c15 : a0 = 58
    ·rw [if_pos c15] at H
     have c15b0 : (a0 == 58) = true:=beq_iff_eq.mpr c15
     have c15b1 : (a0 != 58) = false:=bne_eq_false_iff_eq.mpr c15
     clear c15
     obtain rfl:=Option.some.inj H
     go_enter Tryd.func42,Tryd.ntmps42
     go_wp2
     go_ret
     exact ⟨by first|rfl|(simp;done)|(simp [*];done),drn⟩
    ·rw [if_neg c15] at H
     have c15b0 : (a0 == 58) = false:=beq_eq_false_iff_ne.mpr c15
     have c15b1 : (a0 != 58) = true:=bne_iff_ne.mpr c15
     obtain rfl:=Option.some.inj H
     go_enter Tryd.func42,Tryd.ntmps42
     go_wp2
     go_ret
     exact ⟨by first|rfl|(simp;done)|(simp [*];done),drn⟩

/-! ### spec_TextOk: function 23 -/
def spec_TextOk.l0 : Nat → ByteArray → Int → Option (Bool)
 | 0, _, _ => none
 | k + 1, x0, x3 => if x3 < (x0.size : Int) then (if 0 ≤ x3 then ((spec_l2Byte.f (bt x0 x3)).bind fun t101 => (if t101 = true then (spec_TextOk.l0 k x0 (wrap64 (x3 + 1))) else (some false))) else (none)) else (some (decide ((x0.size : Int) ≤ 40)))
def spec_TextOk.f (k : Nat) (a0 : ByteArray) : Option (Bool) := spec_TextOk.l0 k a0 0
theorem spec_TextOk.mono_l : ∀ k, (∀ y0 y1, LeO (spec_TextOk.l0 k y0 y1) (spec_TextOk.l0 (k + 1) y0 y1))
 | 0 => fun _ _ r h => by simp [spec_TextOk.l0] at h
 | k + 1 => by
  have ih0:=spec_TextOk.mono_l k
  ·intro y0 y1
   unfold spec_TextOk.l0
   repeat' first
   | (with_reducible exact ih0 _ _)
   | (with_reducible exact LeO.refl _)
   | (with_reducible exact LeO.none _)
   | (with_reducible refine LeO.ite ?_ ?_)
   | (with_reducible refine LeO.bind ?_ (fun _ => ?_))
   | exact ih0 _ _
   | exact LeO.none _
   | refine LeO.ite ?_ ?_
   | refine LeO.bind ?_ (fun _ => ?_)
theorem spec_TextOk.mono : ∀ a0 k, LeO (spec_TextOk.f k a0) (spec_TextOk.f (k + 1) a0) := by
 intro a0 k
 have ih0:=spec_TextOk.mono_l k
 unfold spec_TextOk.f
 repeat' first
   | (with_reducible exact ih0 _ _)
   | (with_reducible exact LeO.refl _)
   | (with_reducible exact LeO.none _)
   | (with_reducible refine LeO.ite ?_ ?_)
   | (with_reducible refine LeO.bind ?_ (fun _ => ?_))
   | exact ih0 _ _
   | exact LeO.none _
   | refine LeO.ite ?_ ?_
   | refine LeO.bind ?_ (fun _ => ?_)
theorem spec_TextOk.calls (k : Nat) (a0 : ByteArray) (r : Bool) (w : World) (h : spec_TextOk.f k a0 = some r) :
  Calls Tryd.prog 23 #[.string a0] w fun e w'=>e = .returned (.bool r) ∧ Drawn0 w w':=by
 have H : (spec_TextOk.l0 k a0 0) = some r:=h
 clear h
 have H':=m_ H
 clear H
 go_enter Tryd.func23,Tryd.ntmps23
 go_wp2
 go_loopg [3] k (fun kq v3 w'=>∃ (x3_1 : Int),v3 = .int .i64 x3_1 ∧ Aside0 (spec_TextOk.l0 kq a0 x3_1 = some r) ∧ Aside0 (kq ≤ k) ∧ Drawn0 w w')
 case atStart=>exact ⟨(0),(by first|rfl|(simp;done)|(simp [*];done)),H',⟨Nat.le_refl _⟩,drn⟩
 case round =>
  clear H'
  obtain ⟨x3_1,rfl,HA,HK1,⟨m1,rfl⟩⟩:=hrel
  cases gk with
  | zero => exact absurd HA.out (by simp [spec_TextOk.l0])
  | succ k1 =>
   have H:=HA.out
   clear HA
   simp only [spec_TextOk.l0] at H
   by_cases c2 : x3_1 < (a0.size : Int)
   ·rw [if_pos c2] at H
    have c2b0 : decide (x3_1 < (a0.size : Int)) = true:=decide_eq_true c2
    clear c2
    by_cases c3 : 0 ≤ x3_1
    rotate_left
    ·rw [if_neg c3] at H
     exact absurd H (by simp)
    rw [if_pos c3] at H
    have c3b0 : decide (0 ≤ x3_1) = true:=decide_eq_true c3
    clear c3
    replace H:=Option.bind_eq_some_iff.mp H
    obtain ⟨t101,A50,H⟩:=H
    replace H : (if t101 = true then (spec_TextOk.l0 k1 a0 (wrap64 (x3_1 + 1))) else (some false)) = some r:=H
    have A5:=m_ A50
    clear A50
    by_cases c6 : t101 = true
    ·subst c6
     have H1 : (spec_TextOk.l0 k1 a0 (wrap64 (x3_1 + 1))) = some r:=by rw [if_pos rfl] at H;exact H
     clear H
     have H:=H1
     clear H1
     have H':=m_ H
     clear H
     have p4 : 0 ≤ (x3_1 : Int):=of_decide_eq_true asm
     have q4 : x3_1 < (a0.size : Int):=of_decide_eq_true asm
     have hx4:=bt_at a0 x3_1
     replace p4:=eq_true p4
     replace q4:=eq_true q4
     go_wp2_with (first|((with_reducible refine gate_callee (f:=42) rfl ?_);refine goesL_ (some 13) rfl rfl Tryd.func42 (by kernel_rfl) rfl #[.int .u8 (bt a0 x3_1)] rfl lens ?_;(with_reducible refine (spec_l2Byte.calls (bt a0 x3_1) true _ A5.out).mono ?_);rintro e w' ⟨rfl,⟨nd,rfl⟩⟩;refine ⟨_,rfl,?_⟩))
     go_roundg k1
     case measure=>have:=HK1.out;omega
     case rel=>exact ⟨(wrap64 (x3_1 + 1)),(by first|rfl|(simp;done)|(simp [*];done)),H',⟨by have:=HK1.out;omega⟩,drn⟩
    ·replace c6:=Bool.eq_false_iff.mpr c6
     subst c6
     have H1 : (some false) = some r:=by rw [if_neg (show ¬ (false = true) by decide)] at H;exact H
     clear H
     have H:=H1
     clear H1
     obtain rfl:=Option.some.inj H
     have p4 : 0 ≤ (x3_1 : Int):=of_decide_eq_true asm
     have q4 : x3_1 < (a0.size : Int):=of_decide_eq_true asm
     have hx4:=bt_at a0 x3_1
     replace p4:=eq_true p4
     replace q4:=eq_true q4
     go_wp2_with (first|((with_reducible refine gate_callee (f:=42) rfl ?_);refine goesL_ (some 13) rfl rfl Tryd.func42 (by kernel_rfl) rfl #[.int .u8 (bt a0 x3_1)] rfl lens ?_;(with_reducible refine (spec_l2Byte.calls (bt a0 x3_1) false _ A5.out).mono ?_);rintro e w' ⟨rfl,⟨nd,rfl⟩⟩;refine ⟨_,rfl,?_⟩))
     go_ret
     exact ⟨by first|rfl|(simp;done)|(simp [*];done),drn⟩
   ·rw [if_neg c2] at H
    have c2b0 : decide (x3_1 < (a0.size : Int)) = false:=decide_eq_false c2
    clear c2
    obtain rfl:=Option.some.inj H
    go_wp2
    go_ret
    exact ⟨by first|rfl|(simp;done)|(simp [*];done),drn⟩

/-! ### spec_l6In: function 31 -/
def spec_l6In.f (a0 : Int) (a1 : Int) (a2 : Int) : Option (Bool) := if a0 ≥ a1 then (some (decide (a0 ≤ a2))) else (some false)
theorem spec_l6In.calls (a0 : Int) (a1 : Int) (a2 : Int) (r : Bool) (w : World) (h : spec_l6In.f a0 a1 a2 = some r) :
  Calls Tryd.prog 31 #[.int .i64 a0,.int .i64 a1,.int .i64 a2] w fun e w'=>e = .returned (.bool r) ∧ Drawn0 w w':=by
 have H : (if a0 ≥ a1 then (some (decide (a0 ≤ a2))) else (some false)) = some r:=h
 clear h
 by_cases c4 : a0 ≥ a1
 ·rw [if_pos c4] at H
  have c4b0 : decide (a1 ≤ a0) = true:=decide_eq_true c4
  clear c4
  obtain rfl:=Option.some.inj H
  go_enter Tryd.func31,Tryd.ntmps31
  go_wp2
  go_ret
  exact ⟨by first|rfl|(simp;done)|(simp [*];done),drn⟩
 ·rw [if_neg c4] at H
  have c4b0 : decide (a1 ≤ a0) = false:=decide_eq_false c4
  clear c4
  obtain rfl:=Option.some.inj H
  go_enter Tryd.func31,Tryd.ntmps31
  go_wp2
  go_ret
  exact ⟨by first|rfl|(simp;done)|(simp [*];done),drn⟩

/-! ### spec_l1Digit: function 83 -/
def spec_l1Digit.f (a0 : Int) : Option (Int) := if a0 < 48 then (some (-1)) else (if a0 > 57 then (some (-1)) else (some ((a0 - 48) % 256)))
theorem spec_l1Digit.calls (a0 : Int) (r : Int) (w : World) (h : spec_l1Digit.f a0 = some r) :
  Calls Tryd.prog 83 #[.int .u8 a0] w fun e w'=>e = .returned (.int .i64 r) ∧ Drawn0 w w':=by
 have H : (if a0 < 48 then (some (-1)) else (if a0 > 57 then (some (-1)) else (some ((a0 - 48) % 256)))) = some r:=h
 clear h
 by_cases c2 : a0 < 48
 ·rw [if_pos c2] at H
  have c2b0 : decide (a0 < 48) = true:=decide_eq_true c2
  clear c2
  obtain rfl:=Option.some.inj H
  go_enter Tryd.func83,Tryd.ntmps83
  go_wp2
  go_ret
  exact ⟨by first|rfl|(simp;done)|(simp [*];done),drn⟩
 ·rw [if_neg c2] at H
  have c2b0 : decide (a0 < 48) = false:=decide_eq_false c2
  clear c2
  by_cases c3 : a0 > 57
  ·rw [if_pos c3] at H
   have c3b0 : decide (57 < a0) = true:=decide_eq_true c3
   clear c3
   obtain rfl:=Option.some.inj H
   go_enter Tryd.func83,Tryd.ntmps83
   go_wp2
   go_ret
   exact ⟨by first|rfl|(simp;done)|(simp [*];done),drn⟩
  ·rw [if_neg c3] at H
   have c3b0 : decide (57 < a0) = false:=decide_eq_false c3
   clear c3
   obtain rfl:=Option.some.inj H
   go_enter Tryd.func83,Tryd.ntmps83
   go_wp2
   go_ret
   exact ⟨by first|rfl|(simp;done)|(simp [*];done),drn⟩

/-! ### spec_l2Begins: function 71 -/
def spec_l2Begins.f (a0 : ByteArray) : Option (Bool) := (spec_l6In.f (a0.size : Int) 1 5).bind fun t102 => (if t102 = true then (if 0 < (a0.size : Int) then (if (bt a0 0) = 64 then (if (a0.size : Int) > 1 then (if 1 < (a0.size : Int) then ((spec_l1Digit.f (bt a0 1)).bind fun t103 => (if t103 < 1 then (some false) else (if (a0.size : Int) > 2 then (if 2 < (a0.size : Int) then (if (bt a0 2) = 58 then (if (a0.size : Int) > 3 then (if 3 < (a0.size : Int) then ((spec_l1Digit.f (bt a0 3)).bind fun t104 => (if t104 < 1 then (some false) else (if (a0.size : Int) < 5 then (some true) else (if 4 < (a0.size : Int) then ((spec_l1Digit.f (bt a0 4)).bind fun t105 => (some (decide (t105 ≥ 0)))) else (none))))) else (none)) else (if (a0.size : Int) < 5 then (some true) else (if 4 < (a0.size : Int) then ((spec_l1Digit.f (bt a0 4)).bind fun t106 => (some (decide (t106 ≥ 0)))) else (none)))) else (some false)) else (none)) else (if (a0.size : Int) > 3 then (if 3 < (a0.size : Int) then ((spec_l1Digit.f (bt a0 3)).bind fun t107 => (if t107 < 1 then (some false) else (if (a0.size : Int) < 5 then (some true) else (if 4 < (a0.size : Int) then ((spec_l1Digit.f (bt a0 4)).bind fun t108 => (some (decide (t108 ≥ 0)))) else (none))))) else (none)) else (if (a0.size : Int) < 5 then (some true) else (if 4 < (a0.size : Int) then ((spec_l1Digit.f (bt a0 4)).bind fun t109 => (some (decide (t109 ≥ 0)))) else (none))))))) else (none)) else (if (a0.size : Int) > 2 then (if 2 < (a0.size : Int) then (if (bt a0 2) = 58 then (if (a0.size : Int) > 3 then (if 3 < (a0.size : Int) then ((spec_l1Digit.f (bt a0 3)).bind fun t110 => (if t110 < 1 then (some false) else (if (a0.size : Int) < 5 then (some true) else (if 4 < (a0.size : Int) then ((spec_l1Digit.f (bt a0 4)).bind fun t111 => (some (decide (t111 ≥ 0)))) else (none))))) else (none)) else (if (a0.size : Int) < 5 then (some true) else (if 4 < (a0.size : Int) then ((spec_l1Digit.f (bt a0 4)).bind fun t112 => (some (decide (t112 ≥ 0)))) else (none)))) else (some false)) else (none)) else (if (a0.size : Int) > 3 then (if 3 < (a0.size : Int) then ((spec_l1Digit.f (bt a0 3)).bind fun t113 => (if t113 < 1 then (some false) else (if (a0.size : Int) < 5 then (some true) else (if 4 < (a0.size : Int) then ((spec_l1Digit.f (bt a0 4)).bind fun t114 => (some (decide (t114 ≥ 0)))) else (none))))) else (none)) else (if (a0.size : Int) < 5 then (some true) else (if 4 < (a0.size : Int) then ((spec_l1Digit.f (bt a0 4)).bind fun t115 => (some (decide (t115 ≥ 0)))) else (none)))))) else (some false)) else (none)) else (some false))
theorem spec_l2Begins.calls (a0 : ByteArray) (r : Bool) (w : World) (h : spec_l2Begins.f a0 = some r) :
  Calls Tryd.prog 71 #[.string a0] w fun e w'=>e = .returned (.bool r) ∧ Drawn0 w w':=by
 have H : ((spec_l6In.f (a0.size : Int) 1 5).bind fun t102=>(if t102 = true then (if 0 < (a0.size : Int) then (if (bt a0 0) = 64 then (if (a0.size : Int) > 1 then (if 1 < (a0.size : Int) then ((spec_l1Digit.f (bt a0 1)).bind fun t103=>(if t103 < 1 then (some false) else (if (a0.size : Int) > 2 then (if 2 < (a0.size : Int) then (if (bt a0 2) = 58 then (if (a0.size : Int) > 3 then (if 3 < (a0.size : Int) then ((spec_l1Digit.f (bt a0 3)).bind fun t104=>(if t104 < 1 then (some false) else (if (a0.size : Int) < 5 then (some true) else (if 4 < (a0.size : Int) then ((spec_l1Digit.f (bt a0 4)).bind fun t105=>(some (decide (t105 ≥ 0)))) else (none))))) else (none)) else (if (a0.size : Int) < 5 then (some true) else (if 4 < (a0.size : Int) then ((spec_l1Digit.f (bt a0 4)).bind fun t106=>(some (decide (t106 ≥ 0)))) else (none)))) else (some false)) else (none)) else (if (a0.size : Int) > 3 then (if 3 < (a0.size : Int) then ((spec_l1Digit.f (bt a0 3)).bind fun t107=>(if t107 < 1 then (some false) else (if (a0.size : Int) < 5 then (some true) else (if 4 < (a0.size : Int) then ((spec_l1Digit.f (bt a0 4)).bind fun t108=>(some (decide (t108 ≥ 0)))) else (none))))) else (none)) else (if (a0.size : Int) < 5 then (some true) else (if 4 < (a0.size : Int) then ((spec_l1Digit.f (bt a0 4)).bind fun t109=>(some (decide (t109 ≥ 0)))) else (none))))))) else (none)) else (if (a0.size : Int) > 2 then (if 2 < (a0.size : Int) then (if (bt a0 2) = 58 then (if (a0.size : Int) > 3 then (if 3 < (a0.size : Int) then ((spec_l1Digit.f (bt a0 3)).bind fun t110=>(if t110 < 1 then (some false) else (if (a0.size : Int) < 5 then (some true) else (if 4 < (a0.size : Int) then ((spec_l1Digit.f (bt a0 4)).bind fun t111=>(some (decide (t111 ≥ 0)))) else (none))))) else (none)) else (if (a0.size : Int) < 5 then (some true) else (if 4 < (a0.size : Int) then ((spec_l1Digit.f (bt a0 4)).bind fun t112=>(some (decide (t112 ≥ 0)))) else (none)))) else (some false)) else (none)) else (if (a0.size : Int) > 3 then (if 3 < (a0.size : Int) then ((spec_l1Digit.f (bt a0 3)).bind fun t113=>(if t113 < 1 then (some false) else (if (a0.size : Int) < 5 then (some true) else (if 4 < (a0.size : Int) then ((spec_l1Digit.f (bt a0 4)).bind fun t114=>(some (decide (t114 ≥ 0)))) else (none))))) else (none)) else (if (a0.size : Int) < 5 then (some true) else (if 4 < (a0.size : Int) then ((spec_l1Digit.f (bt a0 4)).bind fun t115=>(some (decide (t115 ≥ 0)))) else (none)))))) else (some false)) else (none)) else (some false))) = some r:=h
 clear h
 replace H:=Option.bind_eq_some_iff.mp H
 obtain ⟨t102,A20,H⟩:=H
 replace H : (if t102 = true then (if 0 < (a0.size : Int) then (if (bt a0 0) = 64 then (if (a0.size : Int) > 1 then (if 1 < (a0.size : Int) then ((spec_l1Digit.f (bt a0 1)).bind fun t103=>(if t103 < 1 then (some false) else (if (a0.size : Int) > 2 then (if 2 < (a0.size : Int) then (if (bt a0 2) = 58 then (if (a0.size : Int) > 3 then (if 3 < (a0.size : Int) then ((spec_l1Digit.f (bt a0 3)).bind fun t104=>(if t104 < 1 then (some false) else (if (a0.size : Int) < 5 then (some true) else (if 4 < (a0.size : Int) then ((spec_l1Digit.f (bt a0 4)).bind fun t105=>(some (decide (t105 ≥ 0)))) else (none))))) else (none)) else (if (a0.size : Int) < 5 then (some true) else (if 4 < (a0.size : Int) then ((spec_l1Digit.f (bt a0 4)).bind fun t106=>(some (decide (t106 ≥ 0)))) else (none)))) else (some false)) else (none)) else (if (a0.size : Int) > 3 then (if 3 < (a0.size : Int) then ((spec_l1Digit.f (bt a0 3)).bind fun t107=>(if t107 < 1 then (some false) else (if (a0.size : Int) < 5 then (some true) else (if 4 < (a0.size : Int) then ((spec_l1Digit.f (bt a0 4)).bind fun t108=>(some (decide (t108 ≥ 0)))) else (none))))) else (none)) else (if (a0.size : Int) < 5 then (some true) else (if 4 < (a0.size : Int) then ((spec_l1Digit.f (bt a0 4)).bind fun t109=>(some (decide (t109 ≥ 0)))) else (none))))))) else (none)) else (if (a0.size : Int) > 2 then (if 2 < (a0.size : Int) then (if (bt a0 2) = 58 then (if (a0.size : Int) > 3 then (if 3 < (a0.size : Int) then ((spec_l1Digit.f (bt a0 3)).bind fun t110=>(if t110 < 1 then (some false) else (if (a0.size : Int) < 5 then (some true) else (if 4 < (a0.size : Int) then ((spec_l1Digit.f (bt a0 4)).bind fun t111=>(some (decide (t111 ≥ 0)))) else (none))))) else (none)) else (if (a0.size : Int) < 5 then (some true) else (if 4 < (a0.size : Int) then ((spec_l1Digit.f (bt a0 4)).bind fun t112=>(some (decide (t112 ≥ 0)))) else (none)))) else (some false)) else (none)) else (if (a0.size : Int) > 3 then (if 3 < (a0.size : Int) then ((spec_l1Digit.f (bt a0 3)).bind fun t113=>(if t113 < 1 then (some false) else (if (a0.size : Int) < 5 then (some true) else (if 4 < (a0.size : Int) then ((spec_l1Digit.f (bt a0 4)).bind fun t114=>(some (decide (t114 ≥ 0)))) else (none))))) else (none)) else (if (a0.size : Int) < 5 then (some true) else (if 4 < (a0.size : Int) then ((spec_l1Digit.f (bt a0 4)).bind fun t115=>(some (decide (t115 ≥ 0)))) else (none)))))) else (some false)) else (none)) else (some false)) = some r:=H
 have A2:=m_ A20
 clear A20
 by_cases c3 : t102 = true
 ·subst c3
  have H1 : (if 0 < (a0.size : Int) then (if (bt a0 0) = 64 then (if (a0.size : Int) > 1 then (if 1 < (a0.size : Int) then ((spec_l1Digit.f (bt a0 1)).bind fun t103=>(if t103 < 1 then (some false) else (if (a0.size : Int) > 2 then (if 2 < (a0.size : Int) then (if (bt a0 2) = 58 then (if (a0.size : Int) > 3 then (if 3 < (a0.size : Int) then ((spec_l1Digit.f (bt a0 3)).bind fun t104=>(if t104 < 1 then (some false) else (if (a0.size : Int) < 5 then (some true) else (if 4 < (a0.size : Int) then ((spec_l1Digit.f (bt a0 4)).bind fun t105=>(some (decide (t105 ≥ 0)))) else (none))))) else (none)) else (if (a0.size : Int) < 5 then (some true) else (if 4 < (a0.size : Int) then ((spec_l1Digit.f (bt a0 4)).bind fun t106=>(some (decide (t106 ≥ 0)))) else (none)))) else (some false)) else (none)) else (if (a0.size : Int) > 3 then (if 3 < (a0.size : Int) then ((spec_l1Digit.f (bt a0 3)).bind fun t107=>(if t107 < 1 then (some false) else (if (a0.size : Int) < 5 then (some true) else (if 4 < (a0.size : Int) then ((spec_l1Digit.f (bt a0 4)).bind fun t108=>(some (decide (t108 ≥ 0)))) else (none))))) else (none)) else (if (a0.size : Int) < 5 then (some true) else (if 4 < (a0.size : Int) then ((spec_l1Digit.f (bt a0 4)).bind fun t109=>(some (decide (t109 ≥ 0)))) else (none))))))) else (none)) else (if (a0.size : Int) > 2 then (if 2 < (a0.size : Int) then (if (bt a0 2) = 58 then (if (a0.size : Int) > 3 then (if 3 < (a0.size : Int) then ((spec_l1Digit.f (bt a0 3)).bind fun t110=>(if t110 < 1 then (some false) else (if (a0.size : Int) < 5 then (some true) else (if 4 < (a0.size : Int) then ((spec_l1Digit.f (bt a0 4)).bind fun t111=>(some (decide (t111 ≥ 0)))) else (none))))) else (none)) else (if (a0.size : Int) < 5 then (some true) else (if 4 < (a0.size : Int) then ((spec_l1Digit.f (bt a0 4)).bind fun t112=>(some (decide (t112 ≥ 0)))) else (none)))) else (some false)) else (none)) else (if (a0.size : Int) > 3 then (if 3 < (a0.size : Int) then ((spec_l1Digit.f (bt a0 3)).bind fun t113=>(if t113 < 1 then (some false) else (if (a0.size : Int) < 5 then (some true) else (if 4 < (a0.size : Int) then ((spec_l1Digit.f (bt a0 4)).bind fun t114=>(some (decide (t114 ≥ 0)))) else (none))))) else (none)) else (if (a0.size : Int) < 5 then (some true) else (if 4 < (a0.size : Int) then ((spec_l1Digit.f (bt a0 4)).bind fun t115=>(some (decide (t115 ≥ 0)))) else (none)))))) else (some false)) else (none)) = some r:=by rw [if_pos rfl] at H;exact H
  clear H
  have H:=H1
  clear H1
  by_cases c4 : 0 < (a0.size : Int)
  rotate_left
  ·rw [if_neg c4] at H
   exact absurd H (by simp)
  rw [if_pos c4] at H
  have c4b0 : decide (0 < (a0.size : Int)) = true:=decide_eq_true c4
  have c4b1 : decide (0 < a0.size) = true:=decide_eq_true (by omega)
  clear c4
  by_cases c6 : (bt a0 0) = 64
  ·rw [if_pos c6] at H
   have c6b0 : ((bt a0 0) == 64) = true:=beq_iff_eq.mpr c6
   have c6b1 : ((bt a0 0) != 64) = false:=bne_eq_false_iff_eq.mpr c6
   clear c6
   by_cases c7 : (a0.size : Int) > 1
   ·rw [if_pos c7] at H
    have c7b0 : decide (1 < (a0.size : Int)) = true:=decide_eq_true c7
    have c7b1 : decide (1 < a0.size) = true:=decide_eq_true (by omega)
    clear c7
    by_cases c8 : 1 < (a0.size : Int)
    rotate_left
    ·rw [if_neg c8] at H
     exact absurd H (by simp)
    rw [if_pos c8] at H
    have c8b0 : decide (1 < (a0.size : Int)) = true:=decide_eq_true c8
    have c8b1 : decide (1 < a0.size) = true:=decide_eq_true (by omega)
    clear c8
    replace H:=Option.bind_eq_some_iff.mp H
    obtain ⟨t103,A100,H⟩:=H
    replace H : (if t103 < 1 then (some false) else (if (a0.size : Int) > 2 then (if 2 < (a0.size : Int) then (if (bt a0 2) = 58 then (if (a0.size : Int) > 3 then (if 3 < (a0.size : Int) then ((spec_l1Digit.f (bt a0 3)).bind fun t104=>(if t104 < 1 then (some false) else (if (a0.size : Int) < 5 then (some true) else (if 4 < (a0.size : Int) then ((spec_l1Digit.f (bt a0 4)).bind fun t105=>(some (decide (t105 ≥ 0)))) else (none))))) else (none)) else (if (a0.size : Int) < 5 then (some true) else (if 4 < (a0.size : Int) then ((spec_l1Digit.f (bt a0 4)).bind fun t106=>(some (decide (t106 ≥ 0)))) else (none)))) else (some false)) else (none)) else (if (a0.size : Int) > 3 then (if 3 < (a0.size : Int) then ((spec_l1Digit.f (bt a0 3)).bind fun t107=>(if t107 < 1 then (some false) else (if (a0.size : Int) < 5 then (some true) else (if 4 < (a0.size : Int) then ((spec_l1Digit.f (bt a0 4)).bind fun t108=>(some (decide (t108 ≥ 0)))) else (none))))) else (none)) else (if (a0.size : Int) < 5 then (some true) else (if 4 < (a0.size : Int) then ((spec_l1Digit.f (bt a0 4)).bind fun t109=>(some (decide (t109 ≥ 0)))) else (none)))))) = some r:=H
    have A10:=m_ A100
    clear A100
    by_cases c11 : t103 < 1
    ·rw [if_pos c11] at H
     have c11b0 : decide (t103 < 1) = true:=decide_eq_true c11
     clear c11
     obtain rfl:=Option.some.inj H
     go_enter Tryd.func71,Tryd.ntmps71
     go_wp2_with (first|((with_reducible refine gate_callee (f:=31) rfl ?_);refine goesL_ (some 7) rfl rfl Tryd.func31 (by kernel_rfl) rfl #[.int .i64 (a0.size : Int),.int .i64 1,.int .i64 5] rfl lens ?_;(with_reducible refine (spec_l6In.calls (a0.size : Int) 1 5 true _ A2.out).mono ?_);rintro e w' ⟨rfl,⟨nd,rfl⟩⟩;refine ⟨_,rfl,?_⟩;have p5 : 0 ≤ (0 : Int):=(by omega);have q5 : 0 < a0.size:=(by have : (0 : Int) < (a0.size : Int):=of_decide_eq_true asm;omega);have hx5 : ∀ h : 0 < a0.size,((a0[0]'h).toNat : Int) = bt a0 0:=bt_at a0 0;clear p5;have qi5 : (0 < (a0.size : Int)) = True:=eq_true (of_decide_eq_true asm);replace q5:=eq_true q5;have p9 : 0 ≤ (1 : Int):=(by omega);have q9 : 1 < a0.size:=(by have : (1 : Int) < (a0.size : Int):=of_decide_eq_true asm;omega);have hx9 : ∀ h : 1 < a0.size,((a0[1]'h).toNat : Int) = bt a0 1:=bt_at a0 1;clear p9;have qi9 : (1 < (a0.size : Int)) = True:=eq_true (of_decide_eq_true asm);replace q9:=eq_true q9)|(go_at_call 83;(with_reducible refine (spec_l1Digit.calls (bt a0 1) t103 _ A10.out).mono ?_);rintro e w' ⟨rfl,⟨nd,rfl⟩⟩))
     go_ret
     exact ⟨by first|rfl|(simp;done)|(simp [*];done),drn⟩
    ·rw [if_neg c11] at H
     have c11b0 : decide (t103 < 1) = false:=decide_eq_false c11
     clear c11
     by_cases c12 : (a0.size : Int) > 2
     ·rw [if_pos c12] at H
      have c12b0 : decide (2 < (a0.size : Int)) = true:=decide_eq_true c12
      have c12b1 : decide (2 < a0.size) = true:=decide_eq_true (by omega)
      clear c12
      by_cases c13 : 2 < (a0.size : Int)
      rotate_left
      ·rw [if_neg c13] at H
       exact absurd H (by simp)
      rw [if_pos c13] at H
      have c13b0 : decide (2 < (a0.size : Int)) = true:=decide_eq_true c13
      have c13b1 : decide (2 < a0.size) = true:=decide_eq_true (by omega)
      clear c13
      by_cases c15 : (bt a0 2) = 58
      ·rw [if_pos c15] at H
       have c15b0 : ((bt a0 2) == 58) = true:=beq_iff_eq.mpr c15
       have c15b1 : ((bt a0 2) != 58) = false:=bne_eq_false_iff_eq.mpr c15
       clear c15
       by_cases c16 : (a0.size : Int) > 3
       ·rw [if_pos c16] at H
        have c16b0 : decide (3 < (a0.size : Int)) = true:=decide_eq_true c16
        have c16b1 : decide (3 < a0.size) = true:=decide_eq_true (by omega)
        clear c16
        by_cases c17 : 3 < (a0.size : Int)
        rotate_left
        ·rw [if_neg c17] at H
         exact absurd H (by simp)
        rw [if_pos c17] at H
        have c17b0 : decide (3 < (a0.size : Int)) = true:=decide_eq_true c17
        have c17b1 : decide (3 < a0.size) = true:=decide_eq_true (by omega)
        clear c17
        replace H:=Option.bind_eq_some_iff.mp H
        obtain ⟨t104,A190,H⟩:=H
        replace H : (if t104 < 1 then (some false) else (if (a0.size : Int) < 5 then (some true) else (if 4 < (a0.size : Int) then ((spec_l1Digit.f (bt a0 4)).bind fun t105=>(some (decide (t105 ≥ 0)))) else (none)))) = some r:=H
        have A19:=m_ A190
        clear A190
        by_cases c20 : t104 < 1
        ·rw [if_pos c20] at H
         have c20b0 : decide (t104 < 1) = true:=decide_eq_true c20
         clear c20
         obtain rfl:=Option.some.inj H
         go_enter Tryd.func71,Tryd.ntmps71
         go_wp2_with (first|((with_reducible refine gate_callee (f:=31) rfl ?_);refine goesL_ (some 7) rfl rfl Tryd.func31 (by kernel_rfl) rfl #[.int .i64 (a0.size : Int),.int .i64 1,.int .i64 5] rfl lens ?_;(with_reducible refine (spec_l6In.calls (a0.size : Int) 1 5 true _ A2.out).mono ?_);rintro e w' ⟨rfl,⟨nd,rfl⟩⟩;refine ⟨_,rfl,?_⟩;have p5 : 0 ≤ (0 : Int):=(by omega);have q5 : 0 < a0.size:=(by have : (0 : Int) < (a0.size : Int):=of_decide_eq_true asm;omega);have hx5 : ∀ h : 0 < a0.size,((a0[0]'h).toNat : Int) = bt a0 0:=bt_at a0 0;clear p5;have qi5 : (0 < (a0.size : Int)) = True:=eq_true (of_decide_eq_true asm);replace q5:=eq_true q5;have p9 : 0 ≤ (1 : Int):=(by omega);have q9 : 1 < a0.size:=(by have : (1 : Int) < (a0.size : Int):=of_decide_eq_true asm;omega);have hx9 : ∀ h : 1 < a0.size,((a0[1]'h).toNat : Int) = bt a0 1:=bt_at a0 1;clear p9;have qi9 : (1 < (a0.size : Int)) = True:=eq_true (of_decide_eq_true asm);replace q9:=eq_true q9)|(go_at_call 83;(with_reducible refine (spec_l1Digit.calls (bt a0 1) t103 _ A10.out).mono ?_);rintro e w' ⟨rfl,⟨nd,rfl⟩⟩;have p14 : 0 ≤ (2 : Int):=(by omega);have q14 : 2 < a0.size:=(by have : (2 : Int) < (a0.size : Int):=of_decide_eq_true asm;omega);have hx14 : ∀ h : 2 < a0.size,((a0[2]'h).toNat : Int) = bt a0 2:=bt_at a0 2;clear p14;have qi14 : (2 < (a0.size : Int)) = True:=eq_true (of_decide_eq_true asm);replace q14:=eq_true q14;have p18 : 0 ≤ (3 : Int):=(by omega);have q18 : 3 < a0.size:=(by have : (3 : Int) < (a0.size : Int):=of_decide_eq_true asm;omega);have hx18 : ∀ h : 3 < a0.size,((a0[3]'h).toNat : Int) = bt a0 3:=bt_at a0 3;clear p18;have qi18 : (3 < (a0.size : Int)) = True:=eq_true (of_decide_eq_true asm);replace q18:=eq_true q18)|(go_at_call 83;(with_reducible refine (spec_l1Digit.calls (bt a0 3) t104 _ A19.out).mono ?_);rintro e w' ⟨rfl,⟨nd,rfl⟩⟩))
         go_ret
         exact ⟨by first|rfl|(simp;done)|(simp [*];done),drn⟩
        ·rw [if_neg c20] at H
         have c20b0 : decide (t104 < 1) = false:=decide_eq_false c20
         clear c20
         by_cases c21 : (a0.size : Int) < 5
         ·rw [if_pos c21] at H
          have c21b0 : decide ((a0.size : Int) < 5) = true:=decide_eq_true c21
          have c21b1 : decide (a0.size < 5) = true:=decide_eq_true (by omega)
          clear c21
          obtain rfl:=Option.some.inj H
          go_enter Tryd.func71,Tryd.ntmps71
          go_wp2_with (first|((with_reducible refine gate_callee (f:=31) rfl ?_);refine goesL_ (some 7) rfl rfl Tryd.func31 (by kernel_rfl) rfl #[.int .i64 (a0.size : Int),.int .i64 1,.int .i64 5] rfl lens ?_;(with_reducible refine (spec_l6In.calls (a0.size : Int) 1 5 true _ A2.out).mono ?_);rintro e w' ⟨rfl,⟨nd,rfl⟩⟩;refine ⟨_,rfl,?_⟩;have p5 : 0 ≤ (0 : Int):=(by omega);have q5 : 0 < a0.size:=(by have : (0 : Int) < (a0.size : Int):=of_decide_eq_true asm;omega);have hx5 : ∀ h : 0 < a0.size,((a0[0]'h).toNat : Int) = bt a0 0:=bt_at a0 0;clear p5;have qi5 : (0 < (a0.size : Int)) = True:=eq_true (of_decide_eq_true asm);replace q5:=eq_true q5;have p9 : 0 ≤ (1 : Int):=(by omega);have q9 : 1 < a0.size:=(by have : (1 : Int) < (a0.size : Int):=of_decide_eq_true asm;omega);have hx9 : ∀ h : 1 < a0.size,((a0[1]'h).toNat : Int) = bt a0 1:=bt_at a0 1;clear p9;have qi9 : (1 < (a0.size : Int)) = True:=eq_true (of_decide_eq_true asm);replace q9:=eq_true q9)|(go_at_call 83;(with_reducible refine (spec_l1Digit.calls (bt a0 1) t103 _ A10.out).mono ?_);rintro e w' ⟨rfl,⟨nd,rfl⟩⟩;have p14 : 0 ≤ (2 : Int):=(by omega);have q14 : 2 < a0.size:=(by have : (2 : Int) < (a0.size : Int):=of_decide_eq_true asm;omega);have hx14 : ∀ h : 2 < a0.size,((a0[2]'h).toNat : Int) = bt a0 2:=bt_at a0 2;clear p14;have qi14 : (2 < (a0.size : Int)) = True:=eq_true (of_decide_eq_true asm);replace q14:=eq_true q14;have p18 : 0 ≤ (3 : Int):=(by omega);have q18 : 3 < a0.size:=(by have : (3 : Int) < (a0.size : Int):=of_decide_eq_true asm;omega);have hx18 : ∀ h : 3 < a0.size,((a0[3]'h).toNat : Int) = bt a0 3:=bt_at a0 3;clear p18;have qi18 : (3 < (a0.size : Int)) = True:=eq_true (of_decide_eq_true asm);replace q18:=eq_true q18)|(go_at_call 83;(with_reducible refine (spec_l1Digit.calls (bt a0 3) t104 _ A19.out).mono ?_);rintro e w' ⟨rfl,⟨nd,rfl⟩⟩))
          go_ret
          exact ⟨by first|rfl|(simp;done)|(simp [*];done),drn⟩
         ·rw [if_neg c21] at H
          have c21b0 : decide ((a0.size : Int) < 5) = false:=decide_eq_false c21
          have c21b1 : decide (a0.size < 5) = false:=decide_eq_false (by omega)
          clear c21
          by_cases c22 : 4 < (a0.size : Int)
          ·rw [if_pos c22] at H
           have c22b0 : decide (4 < (a0.size : Int)) = true:=decide_eq_true c22
           have c22b1 : decide (4 < a0.size) = true:=decide_eq_true (by omega)
           clear c22
           replace H:=Option.bind_eq_some_iff.mp H
           obtain ⟨t105,A240,H⟩:=H
           replace H : (some (decide (t105 ≥ 0))) = some r:=H
           have A24:=m_ A240
           clear A240
           obtain rfl:=Option.some.inj H
           go_enter Tryd.func71,Tryd.ntmps71
           go_wp2_with (first|((with_reducible refine gate_callee (f:=31) rfl ?_);refine goesL_ (some 7) rfl rfl Tryd.func31 (by kernel_rfl) rfl #[.int .i64 (a0.size : Int),.int .i64 1,.int .i64 5] rfl lens ?_;(with_reducible refine (spec_l6In.calls (a0.size : Int) 1 5 true _ A2.out).mono ?_);rintro e w' ⟨rfl,⟨nd,rfl⟩⟩;refine ⟨_,rfl,?_⟩;have p5 : 0 ≤ (0 : Int):=(by omega);have q5 : 0 < a0.size:=(by have : (0 : Int) < (a0.size : Int):=of_decide_eq_true asm;omega);have hx5 : ∀ h : 0 < a0.size,((a0[0]'h).toNat : Int) = bt a0 0:=bt_at a0 0;clear p5;have qi5 : (0 < (a0.size : Int)) = True:=eq_true (of_decide_eq_true asm);replace q5:=eq_true q5;have p9 : 0 ≤ (1 : Int):=(by omega);have q9 : 1 < a0.size:=(by have : (1 : Int) < (a0.size : Int):=of_decide_eq_true asm;omega);have hx9 : ∀ h : 1 < a0.size,((a0[1]'h).toNat : Int) = bt a0 1:=bt_at a0 1;clear p9;have qi9 : (1 < (a0.size : Int)) = True:=eq_true (of_decide_eq_true asm);replace q9:=eq_true q9)|(go_at_call 83;(with_reducible refine (spec_l1Digit.calls (bt a0 1) t103 _ A10.out).mono ?_);rintro e w' ⟨rfl,⟨nd,rfl⟩⟩;have p14 : 0 ≤ (2 : Int):=(by omega);have q14 : 2 < a0.size:=(by have : (2 : Int) < (a0.size : Int):=of_decide_eq_true asm;omega);have hx14 : ∀ h : 2 < a0.size,((a0[2]'h).toNat : Int) = bt a0 2:=bt_at a0 2;clear p14;have qi14 : (2 < (a0.size : Int)) = True:=eq_true (of_decide_eq_true asm);replace q14:=eq_true q14;have p18 : 0 ≤ (3 : Int):=(by omega);have q18 : 3 < a0.size:=(by have : (3 : Int) < (a0.size : Int):=of_decide_eq_true asm;omega);have hx18 : ∀ h : 3 < a0.size,((a0[3]'h).toNat : Int) = bt a0 3:=bt_at a0 3;clear p18;have qi18 : (3 < (a0.size : Int)) = True:=eq_true (of_decide_eq_true asm);replace q18:=eq_true q18)|(go_at_call 83;(with_reducible refine (spec_l1Digit.calls (bt a0 3) t104 _ A19.out).mono ?_);rintro e w' ⟨rfl,⟨nd,rfl⟩⟩;have p23 : 0 ≤ (4 : Int):=(by omega);have q23 : 4 < a0.size:=(by have : (4 : Int) < (a0.size : Int):=of_decide_eq_true asm;omega);have hx23 : ∀ h : 4 < a0.size,((a0[4]'h).toNat : Int) = bt a0 4:=bt_at a0 4;clear p23;have qi23 : (4 < (a0.size : Int)) = True:=eq_true (of_decide_eq_true asm);replace q23:=eq_true q23)|(go_at_call 83;(with_reducible refine (spec_l1Digit.calls (bt a0 4) t105 _ A24.out).mono ?_);rintro e w' ⟨rfl,⟨nd,rfl⟩⟩))
           go_ret
           exact ⟨by first|rfl|(simp;done)|(simp [*];done),drn⟩
          ·rw [if_neg c22] at H
           exact absurd H (by simp)
       ·rw [if_neg c16] at H
        have c16b0 : decide (3 < (a0.size : Int)) = false:=decide_eq_false c16
        have c16b1 : decide (3 < a0.size) = false:=decide_eq_false (by omega)
        clear c16
        by_cases c25 : (a0.size : Int) < 5
        ·rw [if_pos c25] at H
         have c25b0 : decide ((a0.size : Int) < 5) = true:=decide_eq_true c25
         have c25b1 : decide (a0.size < 5) = true:=decide_eq_true (by omega)
         clear c25
         obtain rfl:=Option.some.inj H
         go_enter Tryd.func71,Tryd.ntmps71
         go_wp2_with (first|((with_reducible refine gate_callee (f:=31) rfl ?_);refine goesL_ (some 7) rfl rfl Tryd.func31 (by kernel_rfl) rfl #[.int .i64 (a0.size : Int),.int .i64 1,.int .i64 5] rfl lens ?_;(with_reducible refine (spec_l6In.calls (a0.size : Int) 1 5 true _ A2.out).mono ?_);rintro e w' ⟨rfl,⟨nd,rfl⟩⟩;refine ⟨_,rfl,?_⟩;have p5 : 0 ≤ (0 : Int):=(by omega);have q5 : 0 < a0.size:=(by have : (0 : Int) < (a0.size : Int):=of_decide_eq_true asm;omega);have hx5 : ∀ h : 0 < a0.size,((a0[0]'h).toNat : Int) = bt a0 0:=bt_at a0 0;clear p5;have qi5 : (0 < (a0.size : Int)) = True:=eq_true (of_decide_eq_true asm);replace q5:=eq_true q5;have p9 : 0 ≤ (1 : Int):=(by omega);have q9 : 1 < a0.size:=(by have : (1 : Int) < (a0.size : Int):=of_decide_eq_true asm;omega);have hx9 : ∀ h : 1 < a0.size,((a0[1]'h).toNat : Int) = bt a0 1:=bt_at a0 1;clear p9;have qi9 : (1 < (a0.size : Int)) = True:=eq_true (of_decide_eq_true asm);replace q9:=eq_true q9)|(go_at_call 83;(with_reducible refine (spec_l1Digit.calls (bt a0 1) t103 _ A10.out).mono ?_);rintro e w' ⟨rfl,⟨nd,rfl⟩⟩;have p14 : 0 ≤ (2 : Int):=(by omega);have q14 : 2 < a0.size:=(by have : (2 : Int) < (a0.size : Int):=of_decide_eq_true asm;omega);have hx14 : ∀ h : 2 < a0.size,((a0[2]'h).toNat : Int) = bt a0 2:=bt_at a0 2;clear p14;have qi14 : (2 < (a0.size : Int)) = True:=eq_true (of_decide_eq_true asm);replace q14:=eq_true q14))
         go_ret
         exact ⟨by first|rfl|(simp;done)|(simp [*];done),drn⟩
        ·rw [if_neg c25] at H
         have c25b0 : decide ((a0.size : Int) < 5) = false:=decide_eq_false c25
         have c25b1 : decide (a0.size < 5) = false:=decide_eq_false (by omega)
         clear c25
         by_cases c26 : 4 < (a0.size : Int)
         ·rw [if_pos c26] at H
          have c26b0 : decide (4 < (a0.size : Int)) = true:=decide_eq_true c26
          have c26b1 : decide (4 < a0.size) = true:=decide_eq_true (by omega)
          clear c26
          replace H:=Option.bind_eq_some_iff.mp H
          obtain ⟨t106,A280,H⟩:=H
          replace H : (some (decide (t106 ≥ 0))) = some r:=H
          have A28:=m_ A280
          clear A280
          obtain rfl:=Option.some.inj H
          go_enter Tryd.func71,Tryd.ntmps71
          go_wp2_with (first|((with_reducible refine gate_callee (f:=31) rfl ?_);refine goesL_ (some 7) rfl rfl Tryd.func31 (by kernel_rfl) rfl #[.int .i64 (a0.size : Int),.int .i64 1,.int .i64 5] rfl lens ?_;(with_reducible refine (spec_l6In.calls (a0.size : Int) 1 5 true _ A2.out).mono ?_);rintro e w' ⟨rfl,⟨nd,rfl⟩⟩;refine ⟨_,rfl,?_⟩;have p5 : 0 ≤ (0 : Int):=(by omega);have q5 : 0 < a0.size:=(by have : (0 : Int) < (a0.size : Int):=of_decide_eq_true asm;omega);have hx5 : ∀ h : 0 < a0.size,((a0[0]'h).toNat : Int) = bt a0 0:=bt_at a0 0;clear p5;have qi5 : (0 < (a0.size : Int)) = True:=eq_true (of_decide_eq_true asm);replace q5:=eq_true q5;have p9 : 0 ≤ (1 : Int):=(by omega);have q9 : 1 < a0.size:=(by have : (1 : Int) < (a0.size : Int):=of_decide_eq_true asm;omega);have hx9 : ∀ h : 1 < a0.size,((a0[1]'h).toNat : Int) = bt a0 1:=bt_at a0 1;clear p9;have qi9 : (1 < (a0.size : Int)) = True:=eq_true (of_decide_eq_true asm);replace q9:=eq_true q9)|(go_at_call 83;(with_reducible refine (spec_l1Digit.calls (bt a0 1) t103 _ A10.out).mono ?_);rintro e w' ⟨rfl,⟨nd,rfl⟩⟩;have p14 : 0 ≤ (2 : Int):=(by omega);have q14 : 2 < a0.size:=(by have : (2 : Int) < (a0.size : Int):=of_decide_eq_true asm;omega);have hx14 : ∀ h : 2 < a0.size,((a0[2]'h).toNat : Int) = bt a0 2:=bt_at a0 2;clear p14;have qi14 : (2 < (a0.size : Int)) = True:=eq_true (of_decide_eq_true asm);replace q14:=eq_true q14;have p27 : 0 ≤ (4 : Int):=(by omega);have q27 : 4 < a0.size:=(by have : (4 : Int) < (a0.size : Int):=of_decide_eq_true asm;omega);have hx27 : ∀ h : 4 < a0.size,((a0[4]'h).toNat : Int) = bt a0 4:=bt_at a0 4;clear p27;have qi27 : (4 < (a0.size : Int)) = True:=eq_true (of_decide_eq_true asm);replace q27:=eq_true q27)|(go_at_call 83;(with_reducible refine (spec_l1Digit.calls (bt a0 4) t106 _ A28.out).mono ?_);rintro e w' ⟨rfl,⟨nd,rfl⟩⟩))
          go_ret
          exact ⟨by first|rfl|(simp;done)|(simp [*];done),drn⟩
         ·rw [if_neg c26] at H
          exact absurd H (by simp)
      ·rw [if_neg c15] at H
       have c15b0 : ((bt a0 2) == 58) = false:=beq_eq_false_iff_ne.mpr c15
       have c15b1 : ((bt a0 2) != 58) = true:=bne_iff_ne.mpr c15
       obtain rfl:=Option.some.inj H
       go_enter Tryd.func71,Tryd.ntmps71
       go_wp2_with (first|((with_reducible refine gate_callee (f:=31) rfl ?_);refine goesL_ (some 7) rfl rfl Tryd.func31 (by kernel_rfl) rfl #[.int .i64 (a0.size : Int),.int .i64 1,.int .i64 5] rfl lens ?_;(with_reducible refine (spec_l6In.calls (a0.size : Int) 1 5 true _ A2.out).mono ?_);rintro e w' ⟨rfl,⟨nd,rfl⟩⟩;refine ⟨_,rfl,?_⟩;have p5 : 0 ≤ (0 : Int):=(by omega);have q5 : 0 < a0.size:=(by have : (0 : Int) < (a0.size : Int):=of_decide_eq_true asm;omega);have hx5 : ∀ h : 0 < a0.size,((a0[0]'h).toNat : Int) = bt a0 0:=bt_at a0 0;clear p5;have qi5 : (0 < (a0.size : Int)) = True:=eq_true (of_decide_eq_true asm);replace q5:=eq_true q5;have p9 : 0 ≤ (1 : Int):=(by omega);have q9 : 1 < a0.size:=(by have : (1 : Int) < (a0.size : Int):=of_decide_eq_true asm;omega);have hx9 : ∀ h : 1 < a0.size,((a0[1]'h).toNat : Int) = bt a0 1:=bt_at a0 1;clear p9;have qi9 : (1 < (a0.size : Int)) = True:=eq_true (of_decide_eq_true asm);replace q9:=eq_true q9)|(go_at_call 83;(with_reducible refine (spec_l1Digit.calls (bt a0 1) t103 _ A10.out).mono ?_);rintro e w' ⟨rfl,⟨nd,rfl⟩⟩;have p14 : 0 ≤ (2 : Int):=(by omega);have q14 : 2 < a0.size:=(by have : (2 : Int) < (a0.size : Int):=of_decide_eq_true asm;omega);have hx14 : ∀ h : 2 < a0.size,((a0[2]'h).toNat : Int) = bt a0 2:=bt_at a0 2;clear p14;have qi14 : (2 < (a0.size : Int)) = True:=eq_true (of_decide_eq_true asm);replace q14:=eq_true q14))
       go_ret
       exact ⟨by first|rfl|(simp;done)|(simp [*];done),drn⟩
     ·rw [if_neg c12] at H
      have c12b0 : decide (2 < (a0.size : Int)) = false:=decide_eq_false c12
      have c12b1 : decide (2 < a0.size) = false:=decide_eq_false (by omega)
      clear c12
      by_cases c29 : (a0.size : Int) > 3
      ·rw [if_pos c29] at H
       have c29b0 : decide (3 < (a0.size : Int)) = true:=decide_eq_true c29
       have c29b1 : decide (3 < a0.size) = true:=decide_eq_true (by omega)
       clear c29
       by_cases c30 : 3 < (a0.size : Int)
       rotate_left
       ·rw [if_neg c30] at H
        exact absurd H (by simp)
       rw [if_pos c30] at H
       have c30b0 : decide (3 < (a0.size : Int)) = true:=decide_eq_true c30
       have c30b1 : decide (3 < a0.size) = true:=decide_eq_true (by omega)
       clear c30
       replace H:=Option.bind_eq_some_iff.mp H
       obtain ⟨t107,A320,H⟩:=H
       replace H : (if t107 < 1 then (some false) else (if (a0.size : Int) < 5 then (some true) else (if 4 < (a0.size : Int) then ((spec_l1Digit.f (bt a0 4)).bind fun t108=>(some (decide (t108 ≥ 0)))) else (none)))) = some r:=H
       have A32:=m_ A320
       clear A320
       by_cases c33 : t107 < 1
       ·rw [if_pos c33] at H
        have c33b0 : decide (t107 < 1) = true:=decide_eq_true c33
        clear c33
        obtain rfl:=Option.some.inj H
        go_enter Tryd.func71,Tryd.ntmps71
        go_wp2_with (first|((with_reducible refine gate_callee (f:=31) rfl ?_);refine goesL_ (some 7) rfl rfl Tryd.func31 (by kernel_rfl) rfl #[.int .i64 (a0.size : Int),.int .i64 1,.int .i64 5] rfl lens ?_;(with_reducible refine (spec_l6In.calls (a0.size : Int) 1 5 true _ A2.out).mono ?_);rintro e w' ⟨rfl,⟨nd,rfl⟩⟩;refine ⟨_,rfl,?_⟩;have p5 : 0 ≤ (0 : Int):=(by omega);have q5 : 0 < a0.size:=(by have : (0 : Int) < (a0.size : Int):=of_decide_eq_true asm;omega);have hx5 : ∀ h : 0 < a0.size,((a0[0]'h).toNat : Int) = bt a0 0:=bt_at a0 0;clear p5;have qi5 : (0 < (a0.size : Int)) = True:=eq_true (of_decide_eq_true asm);replace q5:=eq_true q5;have p9 : 0 ≤ (1 : Int):=(by omega);have q9 : 1 < a0.size:=(by have : (1 : Int) < (a0.size : Int):=of_decide_eq_true asm;omega);have hx9 : ∀ h : 1 < a0.size,((a0[1]'h).toNat : Int) = bt a0 1:=bt_at a0 1;clear p9;have qi9 : (1 < (a0.size : Int)) = True:=eq_true (of_decide_eq_true asm);replace q9:=eq_true q9)|(go_at_call 83;(with_reducible refine (spec_l1Digit.calls (bt a0 1) t103 _ A10.out).mono ?_);rintro e w' ⟨rfl,⟨nd,rfl⟩⟩;have p31 : 0 ≤ (3 : Int):=(by omega);have q31 : 3 < a0.size:=(by have : (3 : Int) < (a0.size : Int):=of_decide_eq_true asm;omega);have hx31 : ∀ h : 3 < a0.size,((a0[3]'h).toNat : Int) = bt a0 3:=bt_at a0 3;clear p31;have qi31 : (3 < (a0.size : Int)) = True:=eq_true (of_decide_eq_true asm);replace q31:=eq_true q31)|(go_at_call 83;(with_reducible refine (spec_l1Digit.calls (bt a0 3) t107 _ A32.out).mono ?_);rintro e w' ⟨rfl,⟨nd,rfl⟩⟩))
        go_ret
        exact ⟨by first|rfl|(simp;done)|(simp [*];done),drn⟩
       ·rw [if_neg c33] at H
        have c33b0 : decide (t107 < 1) = false:=decide_eq_false c33
        clear c33
        by_cases c34 : (a0.size : Int) < 5
        ·rw [if_pos c34] at H
         have c34b0 : decide ((a0.size : Int) < 5) = true:=decide_eq_true c34
         have c34b1 : decide (a0.size < 5) = true:=decide_eq_true (by omega)
         clear c34
         obtain rfl:=Option.some.inj H
         go_enter Tryd.func71,Tryd.ntmps71
         go_wp2_with (first|((with_reducible refine gate_callee (f:=31) rfl ?_);refine goesL_ (some 7) rfl rfl Tryd.func31 (by kernel_rfl) rfl #[.int .i64 (a0.size : Int),.int .i64 1,.int .i64 5] rfl lens ?_;(with_reducible refine (spec_l6In.calls (a0.size : Int) 1 5 true _ A2.out).mono ?_);rintro e w' ⟨rfl,⟨nd,rfl⟩⟩;refine ⟨_,rfl,?_⟩;have p5 : 0 ≤ (0 : Int):=(by omega);have q5 : 0 < a0.size:=(by have : (0 : Int) < (a0.size : Int):=of_decide_eq_true asm;omega);have hx5 : ∀ h : 0 < a0.size,((a0[0]'h).toNat : Int) = bt a0 0:=bt_at a0 0;clear p5;have qi5 : (0 < (a0.size : Int)) = True:=eq_true (of_decide_eq_true asm);replace q5:=eq_true q5;have p9 : 0 ≤ (1 : Int):=(by omega);have q9 : 1 < a0.size:=(by have : (1 : Int) < (a0.size : Int):=of_decide_eq_true asm;omega);have hx9 : ∀ h : 1 < a0.size,((a0[1]'h).toNat : Int) = bt a0 1:=bt_at a0 1;clear p9;have qi9 : (1 < (a0.size : Int)) = True:=eq_true (of_decide_eq_true asm);replace q9:=eq_true q9)|(go_at_call 83;(with_reducible refine (spec_l1Digit.calls (bt a0 1) t103 _ A10.out).mono ?_);rintro e w' ⟨rfl,⟨nd,rfl⟩⟩;have p31 : 0 ≤ (3 : Int):=(by omega);have q31 : 3 < a0.size:=(by have : (3 : Int) < (a0.size : Int):=of_decide_eq_true asm;omega);have hx31 : ∀ h : 3 < a0.size,((a0[3]'h).toNat : Int) = bt a0 3:=bt_at a0 3;clear p31;have qi31 : (3 < (a0.size : Int)) = True:=eq_true (of_decide_eq_true asm);replace q31:=eq_true q31)|(go_at_call 83;(with_reducible refine (spec_l1Digit.calls (bt a0 3) t107 _ A32.out).mono ?_);rintro e w' ⟨rfl,⟨nd,rfl⟩⟩))
         go_ret
         exact ⟨by first|rfl|(simp;done)|(simp [*];done),drn⟩
        ·rw [if_neg c34] at H
         have c34b0 : decide ((a0.size : Int) < 5) = false:=decide_eq_false c34
         have c34b1 : decide (a0.size < 5) = false:=decide_eq_false (by omega)
         clear c34
         by_cases c35 : 4 < (a0.size : Int)
         ·rw [if_pos c35] at H
          have c35b0 : decide (4 < (a0.size : Int)) = true:=decide_eq_true c35
          have c35b1 : decide (4 < a0.size) = true:=decide_eq_true (by omega)
          clear c35
          replace H:=Option.bind_eq_some_iff.mp H
          obtain ⟨t108,A370,H⟩:=H
          replace H : (some (decide (t108 ≥ 0))) = some r:=H
          have A37:=m_ A370
          clear A370
          obtain rfl:=Option.some.inj H
          go_enter Tryd.func71,Tryd.ntmps71
          go_wp2_with (first|((with_reducible refine gate_callee (f:=31) rfl ?_);refine goesL_ (some 7) rfl rfl Tryd.func31 (by kernel_rfl) rfl #[.int .i64 (a0.size : Int),.int .i64 1,.int .i64 5] rfl lens ?_;(with_reducible refine (spec_l6In.calls (a0.size : Int) 1 5 true _ A2.out).mono ?_);rintro e w' ⟨rfl,⟨nd,rfl⟩⟩;refine ⟨_,rfl,?_⟩;have p5 : 0 ≤ (0 : Int):=(by omega);have q5 : 0 < a0.size:=(by have : (0 : Int) < (a0.size : Int):=of_decide_eq_true asm;omega);have hx5 : ∀ h : 0 < a0.size,((a0[0]'h).toNat : Int) = bt a0 0:=bt_at a0 0;clear p5;have qi5 : (0 < (a0.size : Int)) = True:=eq_true (of_decide_eq_true asm);replace q5:=eq_true q5;have p9 : 0 ≤ (1 : Int):=(by omega);have q9 : 1 < a0.size:=(by have : (1 : Int) < (a0.size : Int):=of_decide_eq_true asm;omega);have hx9 : ∀ h : 1 < a0.size,((a0[1]'h).toNat : Int) = bt a0 1:=bt_at a0 1;clear p9;have qi9 : (1 < (a0.size : Int)) = True:=eq_true (of_decide_eq_true asm);replace q9:=eq_true q9)|(go_at_call 83;(with_reducible refine (spec_l1Digit.calls (bt a0 1) t103 _ A10.out).mono ?_);rintro e w' ⟨rfl,⟨nd,rfl⟩⟩;have p31 : 0 ≤ (3 : Int):=(by omega);have q31 : 3 < a0.size:=(by have : (3 : Int) < (a0.size : Int):=of_decide_eq_true asm;omega);have hx31 : ∀ h : 3 < a0.size,((a0[3]'h).toNat : Int) = bt a0 3:=bt_at a0 3;clear p31;have qi31 : (3 < (a0.size : Int)) = True:=eq_true (of_decide_eq_true asm);replace q31:=eq_true q31)|(go_at_call 83;(with_reducible refine (spec_l1Digit.calls (bt a0 3) t107 _ A32.out).mono ?_);rintro e w' ⟨rfl,⟨nd,rfl⟩⟩;have p36 : 0 ≤ (4 : Int):=(by omega);have q36 : 4 < a0.size:=(by have : (4 : Int) < (a0.size : Int):=of_decide_eq_true asm;omega);have hx36 : ∀ h : 4 < a0.size,((a0[4]'h).toNat : Int) = bt a0 4:=bt_at a0 4;clear p36;have qi36 : (4 < (a0.size : Int)) = True:=eq_true (of_decide_eq_true asm);replace q36:=eq_true q36)|(go_at_call 83;(with_reducible refine (spec_l1Digit.calls (bt a0 4) t108 _ A37.out).mono ?_);rintro e w' ⟨rfl,⟨nd,rfl⟩⟩))
          go_ret
          exact ⟨by first|rfl|(simp;done)|(simp [*];done),drn⟩
         ·rw [if_neg c35] at H
          exact absurd H (by simp)
      ·rw [if_neg c29] at H
       have c29b0 : decide (3 < (a0.size : Int)) = false:=decide_eq_false c29
       have c29b1 : decide (3 < a0.size) = false:=decide_eq_false (by omega)
       clear c29
       by_cases c38 : (a0.size : Int) < 5
       ·rw [if_pos c38] at H
        have c38b0 : decide ((a0.size : Int) < 5) = true:=decide_eq_true c38
        have c38b1 : decide (a0.size < 5) = true:=decide_eq_true (by omega)
        clear c38
        obtain rfl:=Option.some.inj H
        go_enter Tryd.func71,Tryd.ntmps71
        go_wp2_with (first|((with_reducible refine gate_callee (f:=31) rfl ?_);refine goesL_ (some 7) rfl rfl Tryd.func31 (by kernel_rfl) rfl #[.int .i64 (a0.size : Int),.int .i64 1,.int .i64 5] rfl lens ?_;(with_reducible refine (spec_l6In.calls (a0.size : Int) 1 5 true _ A2.out).mono ?_);rintro e w' ⟨rfl,⟨nd,rfl⟩⟩;refine ⟨_,rfl,?_⟩;have p5 : 0 ≤ (0 : Int):=(by omega);have q5 : 0 < a0.size:=(by have : (0 : Int) < (a0.size : Int):=of_decide_eq_true asm;omega);have hx5 : ∀ h : 0 < a0.size,((a0[0]'h).toNat : Int) = bt a0 0:=bt_at a0 0;clear p5;have qi5 : (0 < (a0.size : Int)) = True:=eq_true (of_decide_eq_true asm);replace q5:=eq_true q5;have p9 : 0 ≤ (1 : Int):=(by omega);have q9 : 1 < a0.size:=(by have : (1 : Int) < (a0.size : Int):=of_decide_eq_true asm;omega);have hx9 : ∀ h : 1 < a0.size,((a0[1]'h).toNat : Int) = bt a0 1:=bt_at a0 1;clear p9;have qi9 : (1 < (a0.size : Int)) = True:=eq_true (of_decide_eq_true asm);replace q9:=eq_true q9)|(go_at_call 83;(with_reducible refine (spec_l1Digit.calls (bt a0 1) t103 _ A10.out).mono ?_);rintro e w' ⟨rfl,⟨nd,rfl⟩⟩))
        go_ret
        exact ⟨by first|rfl|(simp;done)|(simp [*];done),drn⟩
       ·rw [if_neg c38] at H
        have c38b0 : decide ((a0.size : Int) < 5) = false:=decide_eq_false c38
        have c38b1 : decide (a0.size < 5) = false:=decide_eq_false (by omega)
        clear c38
        by_cases c39 : 4 < (a0.size : Int)
        ·rw [if_pos c39] at H
         have c39b0 : decide (4 < (a0.size : Int)) = true:=decide_eq_true c39
         have c39b1 : decide (4 < a0.size) = true:=decide_eq_true (by omega)
         clear c39
         replace H:=Option.bind_eq_some_iff.mp H
         obtain ⟨t109,A410,H⟩:=H
         replace H : (some (decide (t109 ≥ 0))) = some r:=H
         have A41:=m_ A410
         clear A410
         obtain rfl:=Option.some.inj H
         go_enter Tryd.func71,Tryd.ntmps71
         go_wp2_with (first|((with_reducible refine gate_callee (f:=31) rfl ?_);refine goesL_ (some 7) rfl rfl Tryd.func31 (by kernel_rfl) rfl #[.int .i64 (a0.size : Int),.int .i64 1,.int .i64 5] rfl lens ?_;(with_reducible refine (spec_l6In.calls (a0.size : Int) 1 5 true _ A2.out).mono ?_);rintro e w' ⟨rfl,⟨nd,rfl⟩⟩;refine ⟨_,rfl,?_⟩;have p5 : 0 ≤ (0 : Int):=(by omega);have q5 : 0 < a0.size:=(by have : (0 : Int) < (a0.size : Int):=of_decide_eq_true asm;omega);have hx5 : ∀ h : 0 < a0.size,((a0[0]'h).toNat : Int) = bt a0 0:=bt_at a0 0;clear p5;have qi5 : (0 < (a0.size : Int)) = True:=eq_true (of_decide_eq_true asm);replace q5:=eq_true q5;have p9 : 0 ≤ (1 : Int):=(by omega);have q9 : 1 < a0.size:=(by have : (1 : Int) < (a0.size : Int):=of_decide_eq_true asm;omega);have hx9 : ∀ h : 1 < a0.size,((a0[1]'h).toNat : Int) = bt a0 1:=bt_at a0 1;clear p9;have qi9 : (1 < (a0.size : Int)) = True:=eq_true (of_decide_eq_true asm);replace q9:=eq_true q9)|(go_at_call 83;(with_reducible refine (spec_l1Digit.calls (bt a0 1) t103 _ A10.out).mono ?_);rintro e w' ⟨rfl,⟨nd,rfl⟩⟩;have p40 : 0 ≤ (4 : Int):=(by omega);have q40 : 4 < a0.size:=(by have : (4 : Int) < (a0.size : Int):=of_decide_eq_true asm;omega);have hx40 : ∀ h : 4 < a0.size,((a0[4]'h).toNat : Int) = bt a0 4:=bt_at a0 4;clear p40;have qi40 : (4 < (a0.size : Int)) = True:=eq_true (of_decide_eq_true asm);replace q40:=eq_true q40)|(go_at_call 83;(with_reducible refine (spec_l1Digit.calls (bt a0 4) t109 _ A41.out).mono ?_);rintro e w' ⟨rfl,⟨nd,rfl⟩⟩))
         go_ret
         exact ⟨by first|rfl|(simp;done)|(simp [*];done),drn⟩
        ·rw [if_neg c39] at H
         exact absurd H (by simp)
   ·rw [if_neg c7] at H
    have c7b0 : decide (1 < (a0.size : Int)) = false:=decide_eq_false c7
    have c7b1 : decide (1 < a0.size) = false:=decide_eq_false (by omega)
    clear c7
    by_cases c42 : (a0.size : Int) > 2
    ·rw [if_pos c42] at H
     have c42b0 : decide (2 < (a0.size : Int)) = true:=decide_eq_true c42
     have c42b1 : decide (2 < a0.size) = true:=decide_eq_true (by omega)
     clear c42
     by_cases c43 : 2 < (a0.size : Int)
     rotate_left
     ·rw [if_neg c43] at H
      exact absurd H (by simp)
     rw [if_pos c43] at H
     have c43b0 : decide (2 < (a0.size : Int)) = true:=decide_eq_true c43
     have c43b1 : decide (2 < a0.size) = true:=decide_eq_true (by omega)
     clear c43
     by_cases c45 : (bt a0 2) = 58
     ·rw [if_pos c45] at H
      have c45b0 : ((bt a0 2) == 58) = true:=beq_iff_eq.mpr c45
      have c45b1 : ((bt a0 2) != 58) = false:=bne_eq_false_iff_eq.mpr c45
      clear c45
      by_cases c46 : (a0.size : Int) > 3
      ·rw [if_pos c46] at H
       have c46b0 : decide (3 < (a0.size : Int)) = true:=decide_eq_true c46
       have c46b1 : decide (3 < a0.size) = true:=decide_eq_true (by omega)
       clear c46
       by_cases c47 : 3 < (a0.size : Int)
       rotate_left
       ·rw [if_neg c47] at H
        exact absurd H (by simp)
       rw [if_pos c47] at H
       have c47b0 : decide (3 < (a0.size : Int)) = true:=decide_eq_true c47
       have c47b1 : decide (3 < a0.size) = true:=decide_eq_true (by omega)
       clear c47
       replace H:=Option.bind_eq_some_iff.mp H
       obtain ⟨t110,A490,H⟩:=H
       replace H : (if t110 < 1 then (some false) else (if (a0.size : Int) < 5 then (some true) else (if 4 < (a0.size : Int) then ((spec_l1Digit.f (bt a0 4)).bind fun t111=>(some (decide (t111 ≥ 0)))) else (none)))) = some r:=H
       have A49:=m_ A490
       clear A490
       by_cases c50 : t110 < 1
       ·rw [if_pos c50] at H
        have c50b0 : decide (t110 < 1) = true:=decide_eq_true c50
        clear c50
        obtain rfl:=Option.some.inj H
        go_enter Tryd.func71,Tryd.ntmps71
        go_wp2_with (first|((with_reducible refine gate_callee (f:=31) rfl ?_);refine goesL_ (some 7) rfl rfl Tryd.func31 (by kernel_rfl) rfl #[.int .i64 (a0.size : Int),.int .i64 1,.int .i64 5] rfl lens ?_;(with_reducible refine (spec_l6In.calls (a0.size : Int) 1 5 true _ A2.out).mono ?_);rintro e w' ⟨rfl,⟨nd,rfl⟩⟩;refine ⟨_,rfl,?_⟩;have p5 : 0 ≤ (0 : Int):=(by omega);have q5 : 0 < a0.size:=(by have : (0 : Int) < (a0.size : Int):=of_decide_eq_true asm;omega);have hx5 : ∀ h : 0 < a0.size,((a0[0]'h).toNat : Int) = bt a0 0:=bt_at a0 0;clear p5;have qi5 : (0 < (a0.size : Int)) = True:=eq_true (of_decide_eq_true asm);replace q5:=eq_true q5;have p44 : 0 ≤ (2 : Int):=(by omega);have q44 : 2 < a0.size:=(by have : (2 : Int) < (a0.size : Int):=of_decide_eq_true asm;omega);have hx44 : ∀ h : 2 < a0.size,((a0[2]'h).toNat : Int) = bt a0 2:=bt_at a0 2;clear p44;have qi44 : (2 < (a0.size : Int)) = True:=eq_true (of_decide_eq_true asm);replace q44:=eq_true q44;have p48 : 0 ≤ (3 : Int):=(by omega);have q48 : 3 < a0.size:=(by have : (3 : Int) < (a0.size : Int):=of_decide_eq_true asm;omega);have hx48 : ∀ h : 3 < a0.size,((a0[3]'h).toNat : Int) = bt a0 3:=bt_at a0 3;clear p48;have qi48 : (3 < (a0.size : Int)) = True:=eq_true (of_decide_eq_true asm);replace q48:=eq_true q48)|(go_at_call 83;(with_reducible refine (spec_l1Digit.calls (bt a0 3) t110 _ A49.out).mono ?_);rintro e w' ⟨rfl,⟨nd,rfl⟩⟩))
        go_ret
        exact ⟨by first|rfl|(simp;done)|(simp [*];done),drn⟩
       ·rw [if_neg c50] at H
        have c50b0 : decide (t110 < 1) = false:=decide_eq_false c50
        clear c50
        by_cases c51 : (a0.size : Int) < 5
        ·rw [if_pos c51] at H
         have c51b0 : decide ((a0.size : Int) < 5) = true:=decide_eq_true c51
         have c51b1 : decide (a0.size < 5) = true:=decide_eq_true (by omega)
         clear c51
         obtain rfl:=Option.some.inj H
         go_enter Tryd.func71,Tryd.ntmps71
         go_wp2_with (first|((with_reducible refine gate_callee (f:=31) rfl ?_);refine goesL_ (some 7) rfl rfl Tryd.func31 (by kernel_rfl) rfl #[.int .i64 (a0.size : Int),.int .i64 1,.int .i64 5] rfl lens ?_;(with_reducible refine (spec_l6In.calls (a0.size : Int) 1 5 true _ A2.out).mono ?_);rintro e w' ⟨rfl,⟨nd,rfl⟩⟩;refine ⟨_,rfl,?_⟩;have p5 : 0 ≤ (0 : Int):=(by omega);have q5 : 0 < a0.size:=(by have : (0 : Int) < (a0.size : Int):=of_decide_eq_true asm;omega);have hx5 : ∀ h : 0 < a0.size,((a0[0]'h).toNat : Int) = bt a0 0:=bt_at a0 0;clear p5;have qi5 : (0 < (a0.size : Int)) = True:=eq_true (of_decide_eq_true asm);replace q5:=eq_true q5;have p44 : 0 ≤ (2 : Int):=(by omega);have q44 : 2 < a0.size:=(by have : (2 : Int) < (a0.size : Int):=of_decide_eq_true asm;omega);have hx44 : ∀ h : 2 < a0.size,((a0[2]'h).toNat : Int) = bt a0 2:=bt_at a0 2;clear p44;have qi44 : (2 < (a0.size : Int)) = True:=eq_true (of_decide_eq_true asm);replace q44:=eq_true q44;have p48 : 0 ≤ (3 : Int):=(by omega);have q48 : 3 < a0.size:=(by have : (3 : Int) < (a0.size : Int):=of_decide_eq_true asm;omega);have hx48 : ∀ h : 3 < a0.size,((a0[3]'h).toNat : Int) = bt a0 3:=bt_at a0 3;clear p48;have qi48 : (3 < (a0.size : Int)) = True:=eq_true (of_decide_eq_true asm);replace q48:=eq_true q48)|(go_at_call 83;(with_reducible refine (spec_l1Digit.calls (bt a0 3) t110 _ A49.out).mono ?_);rintro e w' ⟨rfl,⟨nd,rfl⟩⟩))
         go_ret
         exact ⟨by first|rfl|(simp;done)|(simp [*];done),drn⟩
        ·rw [if_neg c51] at H
         have c51b0 : decide ((a0.size : Int) < 5) = false:=decide_eq_false c51
         have c51b1 : decide (a0.size < 5) = false:=decide_eq_false (by omega)
         clear c51
         by_cases c52 : 4 < (a0.size : Int)
         ·rw [if_pos c52] at H
          have c52b0 : decide (4 < (a0.size : Int)) = true:=decide_eq_true c52
          have c52b1 : decide (4 < a0.size) = true:=decide_eq_true (by omega)
          clear c52
          replace H:=Option.bind_eq_some_iff.mp H
          obtain ⟨t111,A540,H⟩:=H
          replace H : (some (decide (t111 ≥ 0))) = some r:=H
          have A54:=m_ A540
          clear A540
          obtain rfl:=Option.some.inj H
          go_enter Tryd.func71,Tryd.ntmps71
          go_wp2_with (first|((with_reducible refine gate_callee (f:=31) rfl ?_);refine goesL_ (some 7) rfl rfl Tryd.func31 (by kernel_rfl) rfl #[.int .i64 (a0.size : Int),.int .i64 1,.int .i64 5] rfl lens ?_;(with_reducible refine (spec_l6In.calls (a0.size : Int) 1 5 true _ A2.out).mono ?_);rintro e w' ⟨rfl,⟨nd,rfl⟩⟩;refine ⟨_,rfl,?_⟩;have p5 : 0 ≤ (0 : Int):=(by omega);have q5 : 0 < a0.size:=(by have : (0 : Int) < (a0.size : Int):=of_decide_eq_true asm;omega);have hx5 : ∀ h : 0 < a0.size,((a0[0]'h).toNat : Int) = bt a0 0:=bt_at a0 0;clear p5;have qi5 : (0 < (a0.size : Int)) = True:=eq_true (of_decide_eq_true asm);replace q5:=eq_true q5;have p44 : 0 ≤ (2 : Int):=(by omega);have q44 : 2 < a0.size:=(by have : (2 : Int) < (a0.size : Int):=of_decide_eq_true asm;omega);have hx44 : ∀ h : 2 < a0.size,((a0[2]'h).toNat : Int) = bt a0 2:=bt_at a0 2;clear p44;have qi44 : (2 < (a0.size : Int)) = True:=eq_true (of_decide_eq_true asm);replace q44:=eq_true q44;have p48 : 0 ≤ (3 : Int):=(by omega);have q48 : 3 < a0.size:=(by have : (3 : Int) < (a0.size : Int):=of_decide_eq_true asm;omega);have hx48 : ∀ h : 3 < a0.size,((a0[3]'h).toNat : Int) = bt a0 3:=bt_at a0 3;clear p48;have qi48 : (3 < (a0.size : Int)) = True:=eq_true (of_decide_eq_true asm);replace q48:=eq_true q48)|(go_at_call 83;(with_reducible refine (spec_l1Digit.calls (bt a0 3) t110 _ A49.out).mono ?_);rintro e w' ⟨rfl,⟨nd,rfl⟩⟩;have p53 : 0 ≤ (4 : Int):=(by omega);have q53 : 4 < a0.size:=(by have : (4 : Int) < (a0.size : Int):=of_decide_eq_true asm;omega);have hx53 : ∀ h : 4 < a0.size,((a0[4]'h).toNat : Int) = bt a0 4:=bt_at a0 4;clear p53;have qi53 : (4 < (a0.size : Int)) = True:=eq_true (of_decide_eq_true asm);replace q53:=eq_true q53)|(go_at_call 83;(with_reducible refine (spec_l1Digit.calls (bt a0 4) t111 _ A54.out).mono ?_);rintro e w' ⟨rfl,⟨nd,rfl⟩⟩))
          go_ret
          exact ⟨by first|rfl|(simp;done)|(simp [*];done),drn⟩
         ·rw [if_neg c52] at H
          exact absurd H (by simp)
      ·rw [if_neg c46] at H
       have c46b0 : decide (3 < (a0.size : Int)) = false:=decide_eq_false c46
       have c46b1 : decide (3 < a0.size) = false:=decide_eq_false (by omega)
       clear c46
       by_cases c55 : (a0.size : Int) < 5
       ·rw [if_pos c55] at H
        have c55b0 : decide ((a0.size : Int) < 5) = true:=decide_eq_true c55
        have c55b1 : decide (a0.size < 5) = true:=decide_eq_true (by omega)
        clear c55
        obtain rfl:=Option.some.inj H
        go_enter Tryd.func71,Tryd.ntmps71
        go_wp2_with (first|((with_reducible refine gate_callee (f:=31) rfl ?_);refine goesL_ (some 7) rfl rfl Tryd.func31 (by kernel_rfl) rfl #[.int .i64 (a0.size : Int),.int .i64 1,.int .i64 5] rfl lens ?_;(with_reducible refine (spec_l6In.calls (a0.size : Int) 1 5 true _ A2.out).mono ?_);rintro e w' ⟨rfl,⟨nd,rfl⟩⟩;refine ⟨_,rfl,?_⟩;have p5 : 0 ≤ (0 : Int):=(by omega);have q5 : 0 < a0.size:=(by have : (0 : Int) < (a0.size : Int):=of_decide_eq_true asm;omega);have hx5 : ∀ h : 0 < a0.size,((a0[0]'h).toNat : Int) = bt a0 0:=bt_at a0 0;clear p5;have qi5 : (0 < (a0.size : Int)) = True:=eq_true (of_decide_eq_true asm);replace q5:=eq_true q5;have p44 : 0 ≤ (2 : Int):=(by omega);have q44 : 2 < a0.size:=(by have : (2 : Int) < (a0.size : Int):=of_decide_eq_true asm;omega);have hx44 : ∀ h : 2 < a0.size,((a0[2]'h).toNat : Int) = bt a0 2:=bt_at a0 2;clear p44;have qi44 : (2 < (a0.size : Int)) = True:=eq_true (of_decide_eq_true asm);replace q44:=eq_true q44))
        go_ret
        exact ⟨by first|rfl|(simp;done)|(simp [*];done),drn⟩
       ·rw [if_neg c55] at H
        have c55b0 : decide ((a0.size : Int) < 5) = false:=decide_eq_false c55
        have c55b1 : decide (a0.size < 5) = false:=decide_eq_false (by omega)
        clear c55
        by_cases c56 : 4 < (a0.size : Int)
        ·rw [if_pos c56] at H
         have c56b0 : decide (4 < (a0.size : Int)) = true:=decide_eq_true c56
         have c56b1 : decide (4 < a0.size) = true:=decide_eq_true (by omega)
         clear c56
         replace H:=Option.bind_eq_some_iff.mp H
         obtain ⟨t112,A580,H⟩:=H
         replace H : (some (decide (t112 ≥ 0))) = some r:=H
         have A58:=m_ A580
         clear A580
         obtain rfl:=Option.some.inj H
         go_enter Tryd.func71,Tryd.ntmps71
         go_wp2_with (first|((with_reducible refine gate_callee (f:=31) rfl ?_);refine goesL_ (some 7) rfl rfl Tryd.func31 (by kernel_rfl) rfl #[.int .i64 (a0.size : Int),.int .i64 1,.int .i64 5] rfl lens ?_;(with_reducible refine (spec_l6In.calls (a0.size : Int) 1 5 true _ A2.out).mono ?_);rintro e w' ⟨rfl,⟨nd,rfl⟩⟩;refine ⟨_,rfl,?_⟩;have p5 : 0 ≤ (0 : Int):=(by omega);have q5 : 0 < a0.size:=(by have : (0 : Int) < (a0.size : Int):=of_decide_eq_true asm;omega);have hx5 : ∀ h : 0 < a0.size,((a0[0]'h).toNat : Int) = bt a0 0:=bt_at a0 0;clear p5;have qi5 : (0 < (a0.size : Int)) = True:=eq_true (of_decide_eq_true asm);replace q5:=eq_true q5;have p44 : 0 ≤ (2 : Int):=(by omega);have q44 : 2 < a0.size:=(by have : (2 : Int) < (a0.size : Int):=of_decide_eq_true asm;omega);have hx44 : ∀ h : 2 < a0.size,((a0[2]'h).toNat : Int) = bt a0 2:=bt_at a0 2;clear p44;have qi44 : (2 < (a0.size : Int)) = True:=eq_true (of_decide_eq_true asm);replace q44:=eq_true q44;have p57 : 0 ≤ (4 : Int):=(by omega);have q57 : 4 < a0.size:=(by have : (4 : Int) < (a0.size : Int):=of_decide_eq_true asm;omega);have hx57 : ∀ h : 4 < a0.size,((a0[4]'h).toNat : Int) = bt a0 4:=bt_at a0 4;clear p57;have qi57 : (4 < (a0.size : Int)) = True:=eq_true (of_decide_eq_true asm);replace q57:=eq_true q57)|(go_at_call 83;(with_reducible refine (spec_l1Digit.calls (bt a0 4) t112 _ A58.out).mono ?_);rintro e w' ⟨rfl,⟨nd,rfl⟩⟩))
         go_ret
         exact ⟨by first|rfl|(simp;done)|(simp [*];done),drn⟩
        ·rw [if_neg c56] at H
         exact absurd H (by simp)
     ·rw [if_neg c45] at H
      have c45b0 : ((bt a0 2) == 58) = false:=beq_eq_false_iff_ne.mpr c45
      have c45b1 : ((bt a0 2) != 58) = true:=bne_iff_ne.mpr c45
      obtain rfl:=Option.some.inj H
      go_enter Tryd.func71,Tryd.ntmps71
      go_wp2_with (first|((with_reducible refine gate_callee (f:=31) rfl ?_);refine goesL_ (some 7) rfl rfl Tryd.func31 (by kernel_rfl) rfl #[.int .i64 (a0.size : Int),.int .i64 1,.int .i64 5] rfl lens ?_;(with_reducible refine (spec_l6In.calls (a0.size : Int) 1 5 true _ A2.out).mono ?_);rintro e w' ⟨rfl,⟨nd,rfl⟩⟩;refine ⟨_,rfl,?_⟩;have p5 : 0 ≤ (0 : Int):=(by omega);have q5 : 0 < a0.size:=(by have : (0 : Int) < (a0.size : Int):=of_decide_eq_true asm;omega);have hx5 : ∀ h : 0 < a0.size,((a0[0]'h).toNat : Int) = bt a0 0:=bt_at a0 0;clear p5;have qi5 : (0 < (a0.size : Int)) = True:=eq_true (of_decide_eq_true asm);replace q5:=eq_true q5;have p44 : 0 ≤ (2 : Int):=(by omega);have q44 : 2 < a0.size:=(by have : (2 : Int) < (a0.size : Int):=of_decide_eq_true asm;omega);have hx44 : ∀ h : 2 < a0.size,((a0[2]'h).toNat : Int) = bt a0 2:=bt_at a0 2;clear p44;have qi44 : (2 < (a0.size : Int)) = True:=eq_true (of_decide_eq_true asm);replace q44:=eq_true q44))
      go_ret
      exact ⟨by first|rfl|(simp;done)|(simp [*];done),drn⟩
    ·rw [if_neg c42] at H
     have c42b0 : decide (2 < (a0.size : Int)) = false:=decide_eq_false c42
     have c42b1 : decide (2 < a0.size) = false:=decide_eq_false (by omega)
     clear c42
     by_cases c59 : (a0.size : Int) > 3
     ·rw [if_pos c59] at H
      have c59b0 : decide (3 < (a0.size : Int)) = true:=decide_eq_true c59
      have c59b1 : decide (3 < a0.size) = true:=decide_eq_true (by omega)
      clear c59
      by_cases c60 : 3 < (a0.size : Int)
      rotate_left
      ·rw [if_neg c60] at H
       exact absurd H (by simp)
      rw [if_pos c60] at H
      have c60b0 : decide (3 < (a0.size : Int)) = true:=decide_eq_true c60
      have c60b1 : decide (3 < a0.size) = true:=decide_eq_true (by omega)
      clear c60
      replace H:=Option.bind_eq_some_iff.mp H
      obtain ⟨t113,A620,H⟩:=H
      replace H : (if t113 < 1 then (some false) else (if (a0.size : Int) < 5 then (some true) else (if 4 < (a0.size : Int) then ((spec_l1Digit.f (bt a0 4)).bind fun t114=>(some (decide (t114 ≥ 0)))) else (none)))) = some r:=H
      have A62:=m_ A620
      clear A620
      by_cases c63 : t113 < 1
      ·rw [if_pos c63] at H
       have c63b0 : decide (t113 < 1) = true:=decide_eq_true c63
       clear c63
       obtain rfl:=Option.some.inj H
       go_enter Tryd.func71,Tryd.ntmps71
       go_wp2_with (first|((with_reducible refine gate_callee (f:=31) rfl ?_);refine goesL_ (some 7) rfl rfl Tryd.func31 (by kernel_rfl) rfl #[.int .i64 (a0.size : Int),.int .i64 1,.int .i64 5] rfl lens ?_;(with_reducible refine (spec_l6In.calls (a0.size : Int) 1 5 true _ A2.out).mono ?_);rintro e w' ⟨rfl,⟨nd,rfl⟩⟩;refine ⟨_,rfl,?_⟩;have p5 : 0 ≤ (0 : Int):=(by omega);have q5 : 0 < a0.size:=(by have : (0 : Int) < (a0.size : Int):=of_decide_eq_true asm;omega);have hx5 : ∀ h : 0 < a0.size,((a0[0]'h).toNat : Int) = bt a0 0:=bt_at a0 0;clear p5;have qi5 : (0 < (a0.size : Int)) = True:=eq_true (of_decide_eq_true asm);replace q5:=eq_true q5;have p61 : 0 ≤ (3 : Int):=(by omega);have q61 : 3 < a0.size:=(by have : (3 : Int) < (a0.size : Int):=of_decide_eq_true asm;omega);have hx61 : ∀ h : 3 < a0.size,((a0[3]'h).toNat : Int) = bt a0 3:=bt_at a0 3;clear p61;have qi61 : (3 < (a0.size : Int)) = True:=eq_true (of_decide_eq_true asm);replace q61:=eq_true q61)|(go_at_call 83;(with_reducible refine (spec_l1Digit.calls (bt a0 3) t113 _ A62.out).mono ?_);rintro e w' ⟨rfl,⟨nd,rfl⟩⟩))
       go_ret
       exact ⟨by first|rfl|(simp;done)|(simp [*];done),drn⟩
      ·rw [if_neg c63] at H
       have c63b0 : decide (t113 < 1) = false:=decide_eq_false c63
       clear c63
       by_cases c64 : (a0.size : Int) < 5
       ·rw [if_pos c64] at H
        have c64b0 : decide ((a0.size : Int) < 5) = true:=decide_eq_true c64
        have c64b1 : decide (a0.size < 5) = true:=decide_eq_true (by omega)
        clear c64
        obtain rfl:=Option.some.inj H
        go_enter Tryd.func71,Tryd.ntmps71
        go_wp2_with (first|((with_reducible refine gate_callee (f:=31) rfl ?_);refine goesL_ (some 7) rfl rfl Tryd.func31 (by kernel_rfl) rfl #[.int .i64 (a0.size : Int),.int .i64 1,.int .i64 5] rfl lens ?_;(with_reducible refine (spec_l6In.calls (a0.size : Int) 1 5 true _ A2.out).mono ?_);rintro e w' ⟨rfl,⟨nd,rfl⟩⟩;refine ⟨_,rfl,?_⟩;have p5 : 0 ≤ (0 : Int):=(by omega);have q5 : 0 < a0.size:=(by have : (0 : Int) < (a0.size : Int):=of_decide_eq_true asm;omega);have hx5 : ∀ h : 0 < a0.size,((a0[0]'h).toNat : Int) = bt a0 0:=bt_at a0 0;clear p5;have qi5 : (0 < (a0.size : Int)) = True:=eq_true (of_decide_eq_true asm);replace q5:=eq_true q5;have p61 : 0 ≤ (3 : Int):=(by omega);have q61 : 3 < a0.size:=(by have : (3 : Int) < (a0.size : Int):=of_decide_eq_true asm;omega);have hx61 : ∀ h : 3 < a0.size,((a0[3]'h).toNat : Int) = bt a0 3:=bt_at a0 3;clear p61;have qi61 : (3 < (a0.size : Int)) = True:=eq_true (of_decide_eq_true asm);replace q61:=eq_true q61)|(go_at_call 83;(with_reducible refine (spec_l1Digit.calls (bt a0 3) t113 _ A62.out).mono ?_);rintro e w' ⟨rfl,⟨nd,rfl⟩⟩))
        go_ret
        exact ⟨by first|rfl|(simp;done)|(simp [*];done),drn⟩
       ·rw [if_neg c64] at H
        have c64b0 : decide ((a0.size : Int) < 5) = false:=decide_eq_false c64
        have c64b1 : decide (a0.size < 5) = false:=decide_eq_false (by omega)
        clear c64
        by_cases c65 : 4 < (a0.size : Int)
        ·rw [if_pos c65] at H
         have c65b0 : decide (4 < (a0.size : Int)) = true:=decide_eq_true c65
         have c65b1 : decide (4 < a0.size) = true:=decide_eq_true (by omega)
         clear c65
         replace H:=Option.bind_eq_some_iff.mp H
         obtain ⟨t114,A670,H⟩:=H
         replace H : (some (decide (t114 ≥ 0))) = some r:=H
         have A67:=m_ A670
         clear A670
         obtain rfl:=Option.some.inj H
         go_enter Tryd.func71,Tryd.ntmps71
         go_wp2_with (first|((with_reducible refine gate_callee (f:=31) rfl ?_);refine goesL_ (some 7) rfl rfl Tryd.func31 (by kernel_rfl) rfl #[.int .i64 (a0.size : Int),.int .i64 1,.int .i64 5] rfl lens ?_;(with_reducible refine (spec_l6In.calls (a0.size : Int) 1 5 true _ A2.out).mono ?_);rintro e w' ⟨rfl,⟨nd,rfl⟩⟩;refine ⟨_,rfl,?_⟩;have p5 : 0 ≤ (0 : Int):=(by omega);have q5 : 0 < a0.size:=(by have : (0 : Int) < (a0.size : Int):=of_decide_eq_true asm;omega);have hx5 : ∀ h : 0 < a0.size,((a0[0]'h).toNat : Int) = bt a0 0:=bt_at a0 0;clear p5;have qi5 : (0 < (a0.size : Int)) = True:=eq_true (of_decide_eq_true asm);replace q5:=eq_true q5;have p61 : 0 ≤ (3 : Int):=(by omega);have q61 : 3 < a0.size:=(by have : (3 : Int) < (a0.size : Int):=of_decide_eq_true asm;omega);have hx61 : ∀ h : 3 < a0.size,((a0[3]'h).toNat : Int) = bt a0 3:=bt_at a0 3;clear p61;have qi61 : (3 < (a0.size : Int)) = True:=eq_true (of_decide_eq_true asm);replace q61:=eq_true q61)|(go_at_call 83;(with_reducible refine (spec_l1Digit.calls (bt a0 3) t113 _ A62.out).mono ?_);rintro e w' ⟨rfl,⟨nd,rfl⟩⟩;have p66 : 0 ≤ (4 : Int):=(by omega);have q66 : 4 < a0.size:=(by have : (4 : Int) < (a0.size : Int):=of_decide_eq_true asm;omega);have hx66 : ∀ h : 4 < a0.size,((a0[4]'h).toNat : Int) = bt a0 4:=bt_at a0 4;clear p66;have qi66 : (4 < (a0.size : Int)) = True:=eq_true (of_decide_eq_true asm);replace q66:=eq_true q66)|(go_at_call 83;(with_reducible refine (spec_l1Digit.calls (bt a0 4) t114 _ A67.out).mono ?_);rintro e w' ⟨rfl,⟨nd,rfl⟩⟩))
         go_ret
         exact ⟨by first|rfl|(simp;done)|(simp [*];done),drn⟩
        ·rw [if_neg c65] at H
         exact absurd H (by simp)
     ·rw [if_neg c59] at H
      have c59b0 : decide (3 < (a0.size : Int)) = false:=decide_eq_false c59
      have c59b1 : decide (3 < a0.size) = false:=decide_eq_false (by omega)
      clear c59
      by_cases c68 : (a0.size : Int) < 5
      ·rw [if_pos c68] at H
       have c68b0 : decide ((a0.size : Int) < 5) = true:=decide_eq_true c68
       have c68b1 : decide (a0.size < 5) = true:=decide_eq_true (by omega)
       clear c68
       obtain rfl:=Option.some.inj H
       go_enter Tryd.func71,Tryd.ntmps71
       go_wp2_with (first|((with_reducible refine gate_callee (f:=31) rfl ?_);refine goesL_ (some 7) rfl rfl Tryd.func31 (by kernel_rfl) rfl #[.int .i64 (a0.size : Int),.int .i64 1,.int .i64 5] rfl lens ?_;(with_reducible refine (spec_l6In.calls (a0.size : Int) 1 5 true _ A2.out).mono ?_);rintro e w' ⟨rfl,⟨nd,rfl⟩⟩;refine ⟨_,rfl,?_⟩;have p5 : 0 ≤ (0 : Int):=(by omega);have q5 : 0 < a0.size:=(by have : (0 : Int) < (a0.size : Int):=of_decide_eq_true asm;omega);have hx5 : ∀ h : 0 < a0.size,((a0[0]'h).toNat : Int) = bt a0 0:=bt_at a0 0;clear p5;have qi5 : (0 < (a0.size : Int)) = True:=eq_true (of_decide_eq_true asm);replace q5:=eq_true q5))
       go_ret
       exact ⟨by first|rfl|(simp;done)|(simp [*];done),drn⟩
      ·rw [if_neg c68] at H
       have c68b0 : decide ((a0.size : Int) < 5) = false:=decide_eq_false c68
       have c68b1 : decide (a0.size < 5) = false:=decide_eq_false (by omega)
       clear c68
       by_cases c69 : 4 < (a0.size : Int)
       ·rw [if_pos c69] at H
        have c69b0 : decide (4 < (a0.size : Int)) = true:=decide_eq_true c69
        have c69b1 : decide (4 < a0.size) = true:=decide_eq_true (by omega)
        clear c69
        replace H:=Option.bind_eq_some_iff.mp H
        obtain ⟨t115,A710,H⟩:=H
        replace H : (some (decide (t115 ≥ 0))) = some r:=H
        have A71:=m_ A710
        clear A710
        obtain rfl:=Option.some.inj H
        go_enter Tryd.func71,Tryd.ntmps71
        go_wp2_with (first|((with_reducible refine gate_callee (f:=31) rfl ?_);refine goesL_ (some 7) rfl rfl Tryd.func31 (by kernel_rfl) rfl #[.int .i64 (a0.size : Int),.int .i64 1,.int .i64 5] rfl lens ?_;(with_reducible refine (spec_l6In.calls (a0.size : Int) 1 5 true _ A2.out).mono ?_);rintro e w' ⟨rfl,⟨nd,rfl⟩⟩;refine ⟨_,rfl,?_⟩;have p5 : 0 ≤ (0 : Int):=(by omega);have q5 : 0 < a0.size:=(by have : (0 : Int) < (a0.size : Int):=of_decide_eq_true asm;omega);have hx5 : ∀ h : 0 < a0.size,((a0[0]'h).toNat : Int) = bt a0 0:=bt_at a0 0;clear p5;have qi5 : (0 < (a0.size : Int)) = True:=eq_true (of_decide_eq_true asm);replace q5:=eq_true q5;have p70 : 0 ≤ (4 : Int):=(by omega);have q70 : 4 < a0.size:=(by have : (4 : Int) < (a0.size : Int):=of_decide_eq_true asm;omega);have hx70 : ∀ h : 4 < a0.size,((a0[4]'h).toNat : Int) = bt a0 4:=bt_at a0 4;clear p70;have qi70 : (4 < (a0.size : Int)) = True:=eq_true (of_decide_eq_true asm);replace q70:=eq_true q70)|(go_at_call 83;(with_reducible refine (spec_l1Digit.calls (bt a0 4) t115 _ A71.out).mono ?_);rintro e w' ⟨rfl,⟨nd,rfl⟩⟩))
        go_ret
        exact ⟨by first|rfl|(simp;done)|(simp [*];done),drn⟩
       ·rw [if_neg c69] at H
        exact absurd H (by simp)
  ·rw [if_neg c6] at H
   have c6b0 : ((bt a0 0) == 64) = false:=beq_eq_false_iff_ne.mpr c6
   have c6b1 : ((bt a0 0) != 64) = true:=bne_iff_ne.mpr c6
   obtain rfl:=Option.some.inj H
   go_enter Tryd.func71,Tryd.ntmps71
   go_wp2_with (first|((with_reducible refine gate_callee (f:=31) rfl ?_);refine goesL_ (some 7) rfl rfl Tryd.func31 (by kernel_rfl) rfl #[.int .i64 (a0.size : Int),.int .i64 1,.int .i64 5] rfl lens ?_;(with_reducible refine (spec_l6In.calls (a0.size : Int) 1 5 true _ A2.out).mono ?_);rintro e w' ⟨rfl,⟨nd,rfl⟩⟩;refine ⟨_,rfl,?_⟩;have p5 : 0 ≤ (0 : Int):=(by omega);have q5 : 0 < a0.size:=(by have : (0 : Int) < (a0.size : Int):=of_decide_eq_true asm;omega);have hx5 : ∀ h : 0 < a0.size,((a0[0]'h).toNat : Int) = bt a0 0:=bt_at a0 0;clear p5;have qi5 : (0 < (a0.size : Int)) = True:=eq_true (of_decide_eq_true asm);replace q5:=eq_true q5))
   go_ret
   exact ⟨by first|rfl|(simp;done)|(simp [*];done),drn⟩
 ·replace c3:=Bool.eq_false_iff.mpr c3
  subst c3
  have H1 : (some false) = some r:=by rw [if_neg (show ¬ (false = true) by decide)] at H;exact H
  clear H
  have H:=H1
  clear H1
  obtain rfl:=Option.some.inj H
  go_enter Tryd.func71,Tryd.ntmps71
  go_wp2_with (first|((with_reducible refine gate_callee (f:=31) rfl ?_);refine goesL_ (some 7) rfl rfl Tryd.func31 (by kernel_rfl) rfl #[.int .i64 (a0.size : Int),.int .i64 1,.int .i64 5] rfl lens ?_;(with_reducible refine (spec_l6In.calls (a0.size : Int) 1 5 false _ A2.out).mono ?_);rintro e w' ⟨rfl,⟨nd,rfl⟩⟩;refine ⟨_,rfl,?_⟩))
  go_ret
  exact ⟨by first|rfl|(simp;done)|(simp [*];done),drn⟩

end Go.Proofs.YtkcjmmhleepjeaaDoor.A
