-- Printed by myprint.py (wip/tools) out of the translation. Not trusted: Lean checks it.
import Derived.Test.YtdphdheodloofaaDoorAx0
namespace Go.Proofs.YtdphdheodloofaaDoor.A
open Go.RowKit Go.Proofs.YtdphdheodloofaaDoorW.PrintWords Go.Proofs.YtdphdheodloofaaDoorW.PrintLast Go.Proofs.YtdphdheodloofaaDoorW.PrintMore
attribute [local go_sem] max2_int min2_int max_two min_two max_three min_three max_four min_four   -- for this text's walks alone
set_option linter.unusedVariables false
set_option linter.unusedSimpArgs false

/-! ### impl_figure: function 75 -/
def impl_figure.f (a0 : Int) (a1 : Int) : Option (Bool) := if a0 ≥ a1 then (some (decide (a0 ≤ 57))) else (some false)
set_option maxHeartbeats 8000000 in
set_option maxRecDepth 100000 in
theorem impl_figure.calls (a0 : Int) (a1 : Int) (r : Bool) (w : World) (h : impl_figure.f a0 a1 = some r) :
    Calls Tryd.prog 75 #[.int .u8 a0, .int .u8 a1] w fun e w' => e = .returned (.bool r) ∧ Drawn0 w w' := by
  have H : (if a0 ≥ a1 then (some (decide (a0 ≤ 57))) else (some false)) = some r := h
  clear h
  by_cases c3 : a0 ≥ a1
  · rw [if_pos c3] at H
    have c3b0 : decide (a1 ≤ a0) = true := decide_eq_true c3
    clear c3
    obtain rfl := Option.some.inj H
    go_enter Tryd.func75, Tryd.ntmps75
    go_wp2
    go_ret
    exact ⟨by first | rfl | (simp; done) | (simp [*]; done), by repeat (first | exact Drawn0.refl _ | apply Drawn0.step)⟩
  · rw [if_neg c3] at H
    have c3b0 : decide (a1 ≤ a0) = false := decide_eq_false c3
    clear c3
    obtain rfl := Option.some.inj H
    go_enter Tryd.func75, Tryd.ntmps75
    go_wp2
    go_ret
    exact ⟨by first | rfl | (simp; done) | (simp [*]; done), by repeat (first | exact Drawn0.refl _ | apply Drawn0.step)⟩

/-! ### impl_TextOk: function 59 -/
def tokb (c : Int) : Bool := decide ((97 ≤ c ∧ c ≤ 122) ∨ (48 ≤ c ∧ c ≤ 57) ∨ c = 64 ∨ c = 58 ∨ c = 59)
def impl_TextOk.f (a0 : ByteArray) : Option (Bool) := if a0.size ≤ 140737488355328 then some ((bytesOf a0).all tokb && decide (a0.size ≤ 40)) else none
theorem tok_cell (s : ByteArray) (k : Nat) (h : k < s.size) : ((s.data.toList.getD k 0).toNat : Int) = bt s k := by
  have h' : k < s.data.toList.length := by rw [data_length]; exact h
  simp [bt, h, List.getD_eq_getElem?_getD, List.getElem?_eq_getElem h']
  rfl
set_option maxHeartbeats 4000000 in
set_option maxRecDepth 100000 in
theorem impl_TextOk.calls (a0 : ByteArray) (r : Bool) (w : World) (h : impl_TextOk.f a0 = some r) :
    Calls Tryd.prog 59 #[.string a0] w fun e w' => e = .returned (.bool r) ∧ Below w.heap.size w w' := by
  unfold impl_TextOk.f at h
  by_cases hs : a0.size ≤ 140737488355328
  · rw [if_pos hs] at h
    have HR := Aside0.mk (Option.some.inj h)
    clear h
    have kb := fun W => print_bytes (P := Tryd.prog) 9 22 5 Tryd.underlying9 Tryd.underlying22 Tryd.underlying5 a0 W
    go_enter Tryd.func59, Tryd.ntmps59
    go_wp2
    go_loopw [8] (fun i wr => ∃ k : Nat, k ≤ a0.size ∧ i = .int .i64 k ∧ Aside0 (∀ j : Nat, j < k → tokb (bt a0 j) = true) ∧ Aside0 (Drawn0 (Lib.bytesWorld w 5 a0) wr)) (fun i _ => a0.size - (intOf i).toNat)
    case atStart => exact ⟨0, Nat.zero_le _, rfl, ⟨fun j hj => absurd hj (Nat.not_lt_zero _)⟩, ⟨Drawn0.refl _⟩⟩
    case round =>
      obtain ⟨k, hk, rfl, hall, hd⟩ := hrel
      have hb := bt_range a0 k
      by_cases hlt : k < a0.size
      · have hcell : wr.cell? ⟨w.heap.size, k, none⟩ = some (.int .u8 (bt a0 k)) := by
          obtain ⟨⟨m, rfl⟩⟩ := hd.out
          show (Lib.bytesWorld w 5 a0).cell? _ = _
          rw [Lib.bytesWorld_cell w 5 a0 k hlt, tok_cell a0 k hlt]
        have hnext := fun (h1 : tokb (bt a0 k) = true) => Aside0.mk (show ∀ j : Nat, j < k + 1 → tokb (bt a0 j) = true from fun j hj => by
          by_cases e : j = k
          · subst e; exact h1
          · exact hall.out j (by omega))
        have hok : Aside0 (tokb (bt a0 k) = decide ((97 ≤ bt a0 k ∧ bt a0 k ≤ 122) ∨ (48 ≤ bt a0 k ∧ bt a0 k ≤ 57) ∨ bt a0 k = 64 ∨ bt a0 k = 58 ∨ bt a0 k = 59)) := ⟨rfl⟩
        have hbad := fun (h1 : tokb (bt a0 k) = false) => Aside0.mk (show ((bytesOf a0).all tokb && decide (a0.size ≤ 40)) = false from by
          rw [Bool.and_eq_false_iff]; left
          rw [List.all_eq_false]
          refine ⟨bt a0 k, ?_, by rw [h1]; decide⟩
          have hl : k < (bytesOf a0).length := by rw [bytesOf_length]; exact hlt
          have := List.getElem_mem hl
          rwa [show (bytesOf a0)[k] = bt a0 k from by rw [← rd_bytesOf]; simp [rd, List.getD_eq_getElem?_getD, List.getElem?_eq_getElem hl]] at this)
        generalize bt a0 k = c at hb hcell hnext hok hbad
        clear hall
        by_cases c1 : 48 ≤ c ∧ c ≤ 57
        · have hn := hnext (by rw [hok.out]; exact decide_eq_true (by omega))
          clear hnext hbad hok
          have hf : impl_figure.f c 48 = some true := by unfold impl_figure.f; rw [if_pos c1.1, decide_eq_true c1.2]
          have HF := Aside0.mk hf
          clear hf c1
          go_wp2_with (go_at_call 75; refine (impl_figure.calls c 48 true _ HF.out).mono ?_; rintro e w' ⟨rfl, ⟨nd, rfl⟩⟩)
          go_roundw
          case rel => exact ⟨k + 1, by omega, by go_num, hn, ⟨hd.out.step nd⟩⟩
          case measure => simp [intOf]; omega
        · skip
          by_cases d64 : c = 64
          · subst d64
            have hn := hnext (by rw [hok.out]; decide)
            clear hnext hbad hok c1
            have HF := Aside0.mk (show impl_figure.f 64 48 = some false from rfl)
            go_wp2_with (go_at_call 75; refine (impl_figure.calls 64 48 false _ HF.out).mono ?_; rintro e w' ⟨rfl, ⟨nd, rfl⟩⟩)
            go_roundw
            case rel => exact ⟨k + 1, by omega, by go_num, hn, ⟨hd.out.step nd⟩⟩
            case measure => simp [intOf]; omega
          by_cases d58 : c = 58
          · subst d58
            have hn := hnext (by rw [hok.out]; decide)
            clear hnext hbad hok c1
            have HF := Aside0.mk (show impl_figure.f 58 48 = some false from rfl)
            go_wp2_with (go_at_call 75; refine (impl_figure.calls 58 48 false _ HF.out).mono ?_; rintro e w' ⟨rfl, ⟨nd, rfl⟩⟩)
            go_roundw
            case rel => exact ⟨k + 1, by omega, by go_num, hn, ⟨hd.out.step nd⟩⟩
            case measure => simp [intOf]; omega
          by_cases d59 : c = 59
          · subst d59
            have hn := hnext (by rw [hok.out]; decide)
            clear hnext hbad hok c1
            have HF := Aside0.mk (show impl_figure.f 59 48 = some false from rfl)
            go_wp2_with (go_at_call 75; refine (impl_figure.calls 59 48 false _ HF.out).mono ?_; rintro e w' ⟨rfl, ⟨nd, rfl⟩⟩)
            go_roundw
            case rel => exact ⟨k + 1, by omega, by go_num, hn, ⟨hd.out.step nd⟩⟩
            case measure => simp [intOf]; omega
          have hf : impl_figure.f c 48 = some false := by
            unfold impl_figure.f
            by_cases e : c ≥ 48
            · rw [if_pos e, decide_eq_false (by omega)]
            · rw [if_neg e]
          have HF := Aside0.mk hf
          have n1 : (c != 64) = true := bne_iff_ne.2 d64
          have n2 : (c != 58) = true := bne_iff_ne.2 d58
          have n3 : (c != 59) = true := bne_iff_ne.2 d59
          clear hf d64 d58 d59
          by_cases c2 : c < 97
          · obtain rfl : r = false := by rw [← HR.out]; exact (hbad (by rw [hok.out]; exact decide_eq_false (by have := bne_iff_ne.1 n1; have := bne_iff_ne.1 n2; have := bne_iff_ne.1 n3; omega))).out
            clear hnext hbad hok c1
            have c2b : decide (c < 97) = true := decide_eq_true c2
            clear c2
            go_wp2_with (go_at_call 75; refine (impl_figure.calls c 48 false _ HF.out).mono ?_; rintro e w' ⟨rfl, ⟨nd, rfl⟩⟩)
            go_ret
            exact ⟨rfl, (bytes_below (Below.refl w.heap.size w) (Nat.le_refl _) 5 a0).trans ((hd.out.step nd).below.mono (by rw [Lib.bytesWorld_size]; omega))⟩
          · by_cases c3 : 122 < c
            · obtain rfl : r = false := by rw [← HR.out]; exact (hbad (by rw [hok.out]; exact decide_eq_false (by have := bne_iff_ne.1 n1; have := bne_iff_ne.1 n2; have := bne_iff_ne.1 n3; omega))).out
              clear hnext hbad hok c1
              have c2b : decide (c < 97) = false := decide_eq_false c2
              have c3b : decide (122 < c) = true := decide_eq_true c3
              clear c2 c3
              go_wp2_with (go_at_call 75; refine (impl_figure.calls c 48 false _ HF.out).mono ?_; rintro e w' ⟨rfl, ⟨nd, rfl⟩⟩)
              go_ret
              exact ⟨rfl, (bytes_below (Below.refl w.heap.size w) (Nat.le_refl _) 5 a0).trans ((hd.out.step nd).below.mono (by rw [Lib.bytesWorld_size]; omega))⟩
            · have hn := hnext (by rw [hok.out]; exact decide_eq_true (by omega))
              clear hnext hbad hok c1
              have c2b : decide (c < 97) = false := decide_eq_false c2
              have c3b : decide (122 < c) = false := decide_eq_false c3
              clear c2 c3
              go_wp2_with (go_at_call 75; refine (impl_figure.calls c 48 false _ HF.out).mono ?_; rintro e w' ⟨rfl, ⟨nd, rfl⟩⟩)
              go_roundw
              case rel => exact ⟨k + 1, by omega, by go_num, hn, ⟨hd.out.step nd⟩⟩
              case measure => simp [intOf]; omega
      · have hk2 : k = a0.size := by omega
        have hfin : Aside0 (r = decide ((a0.size : Int) ≤ 40)) := ⟨by
          rw [← HR.out]
          have : (bytesOf a0).all tokb = true := by
            rw [List.all_eq_true]
            intro x hx
            obtain ⟨j, hj, rfl⟩ := List.getElem_of_mem hx
            have hj2 : j < a0.size := by rwa [bytesOf_length] at hj
            have := hall.out j (by omega)
            rw [← rd_bytesOf] at this
            simpa [rd, List.getD_eq_getElem?_getD, List.getElem?_eq_getElem hj] using this
          rw [this, Bool.true_and]
          by_cases e : a0.size ≤ 40
          · rw [decide_eq_true e, decide_eq_true (by omega)]
          · rw [decide_eq_false e, decide_eq_false (by omega)]⟩
        clear hall hk2
        obtain rfl := hfin.out
        clear hfin
        go_wp2
        go_ret
        exact ⟨rfl, (bytes_below (Below.refl w.heap.size w) (Nat.le_refl _) 5 a0).trans (hd.out.below.mono (by rw [Lib.bytesWorld_size]; omega))⟩
  · rw [if_neg hs] at h; cases h

/-! ### spec_l2Byte: function 68 -/
def spec_l2Byte.f (a0 : Int) : Option (Bool) := if a0 ≥ 97 then (if a0 ≤ 122 then (some true) else (if a0 ≥ 48 then (if a0 ≤ 57 then (some true) else (if a0 = 64 then (some true) else (if a0 = 58 then (some true) else (some (a0 == 59))))) else (if a0 = 64 then (some true) else (if a0 = 58 then (some true) else (some (a0 == 59)))))) else (if a0 ≥ 48 then (if a0 ≤ 57 then (some true) else (if a0 = 64 then (some true) else (if a0 = 58 then (some true) else (some (a0 == 59))))) else (if a0 = 64 then (some true) else (if a0 = 58 then (some true) else (some (a0 == 59)))))
set_option maxHeartbeats 8000000 in
set_option maxRecDepth 100000 in
theorem spec_l2Byte.calls (a0 : Int) (r : Bool) (w : World) (h : spec_l2Byte.f a0 = some r) :
    Calls Tryd.prog 68 #[.int .u8 a0] w fun e w' => e = .returned (.bool r) ∧ Drawn0 w w' := by
  have H : (if a0 ≥ 97 then (if a0 ≤ 122 then (some true) else (if a0 ≥ 48 then (if a0 ≤ 57 then (some true) else (if a0 = 64 then (some true) else (if a0 = 58 then (some true) else (some (a0 == 59))))) else (if a0 = 64 then (some true) else (if a0 = 58 then (some true) else (some (a0 == 59)))))) else (if a0 ≥ 48 then (if a0 ≤ 57 then (some true) else (if a0 = 64 then (some true) else (if a0 = 58 then (some true) else (some (a0 == 59))))) else (if a0 = 64 then (some true) else (if a0 = 58 then (some true) else (some (a0 == 59)))))) = some r := h
  clear h
  by_cases c2 : a0 ≥ 97
  · rw [if_pos c2] at H
    have c2b0 : decide (97 ≤ a0) = true := decide_eq_true c2
    clear c2
    by_cases c3 : a0 ≤ 122
    · rw [if_pos c3] at H
      have c3b0 : decide (a0 ≤ 122) = true := decide_eq_true c3
      clear c3
      obtain rfl := Option.some.inj H
      go_enter Tryd.func68, Tryd.ntmps68
      go_wp2
      go_ret
      exact ⟨by first | rfl | (simp; done) | (simp [*]; done), by repeat (first | exact Drawn0.refl _ | apply Drawn0.step)⟩
    · rw [if_neg c3] at H
      have c3b0 : decide (a0 ≤ 122) = false := decide_eq_false c3
      clear c3
      by_cases c4 : a0 ≥ 48
      · rw [if_pos c4] at H
        have c4b0 : decide (48 ≤ a0) = true := decide_eq_true c4
        clear c4
        by_cases c5 : a0 ≤ 57
        · rw [if_pos c5] at H
          have c5b0 : decide (a0 ≤ 57) = true := decide_eq_true c5
          clear c5
          obtain rfl := Option.some.inj H
          go_enter Tryd.func68, Tryd.ntmps68
          go_wp2
          go_ret
          exact ⟨by first | rfl | (simp; done) | (simp [*]; done), by repeat (first | exact Drawn0.refl _ | apply Drawn0.step)⟩
        · rw [if_neg c5] at H
          have c5b0 : decide (a0 ≤ 57) = false := decide_eq_false c5
          clear c5
          by_cases c6 : a0 = 64
          · rw [if_pos c6] at H
            have c6b0 : (a0 == 64) = true := beq_iff_eq.mpr c6
            have c6b1 : (a0 != 64) = false := bne_eq_false_iff_eq.mpr c6
            clear c6
            obtain rfl := Option.some.inj H
            go_enter Tryd.func68, Tryd.ntmps68
            go_wp2
            go_ret
            exact ⟨by first | rfl | (simp; done) | (simp [*]; done), by repeat (first | exact Drawn0.refl _ | apply Drawn0.step)⟩
          · rw [if_neg c6] at H
            have c6b0 : (a0 == 64) = false := beq_eq_false_iff_ne.mpr c6
            have c6b1 : (a0 != 64) = true := bne_iff_ne.mpr c6
            by_cases c7 : a0 = 58
            · rw [if_pos c7] at H
              have c7b0 : (a0 == 58) = true := beq_iff_eq.mpr c7
              have c7b1 : (a0 != 58) = false := bne_eq_false_iff_eq.mpr c7
              clear c7
              obtain rfl := Option.some.inj H
              go_enter Tryd.func68, Tryd.ntmps68
              go_wp2
              go_ret
              exact ⟨by first | rfl | (simp; done) | (simp [*]; done), by repeat (first | exact Drawn0.refl _ | apply Drawn0.step)⟩
            · rw [if_neg c7] at H
              have c7b0 : (a0 == 58) = false := beq_eq_false_iff_ne.mpr c7
              have c7b1 : (a0 != 58) = true := bne_iff_ne.mpr c7
              obtain rfl := Option.some.inj H
              go_enter Tryd.func68, Tryd.ntmps68
              go_wp2
              go_ret
              exact ⟨by first | rfl | (simp; done) | (simp [*]; done), by repeat (first | exact Drawn0.refl _ | apply Drawn0.step)⟩
      · rw [if_neg c4] at H
        have c4b0 : decide (48 ≤ a0) = false := decide_eq_false c4
        clear c4
        by_cases c8 : a0 = 64
        · rw [if_pos c8] at H
          have c8b0 : (a0 == 64) = true := beq_iff_eq.mpr c8
          have c8b1 : (a0 != 64) = false := bne_eq_false_iff_eq.mpr c8
          clear c8
          obtain rfl := Option.some.inj H
          go_enter Tryd.func68, Tryd.ntmps68
          go_wp2
          go_ret
          exact ⟨by first | rfl | (simp; done) | (simp [*]; done), by repeat (first | exact Drawn0.refl _ | apply Drawn0.step)⟩
        · rw [if_neg c8] at H
          have c8b0 : (a0 == 64) = false := beq_eq_false_iff_ne.mpr c8
          have c8b1 : (a0 != 64) = true := bne_iff_ne.mpr c8
          by_cases c9 : a0 = 58
          · rw [if_pos c9] at H
            have c9b0 : (a0 == 58) = true := beq_iff_eq.mpr c9
            have c9b1 : (a0 != 58) = false := bne_eq_false_iff_eq.mpr c9
            clear c9
            obtain rfl := Option.some.inj H
            go_enter Tryd.func68, Tryd.ntmps68
            go_wp2
            go_ret
            exact ⟨by first | rfl | (simp; done) | (simp [*]; done), by repeat (first | exact Drawn0.refl _ | apply Drawn0.step)⟩
          · rw [if_neg c9] at H
            have c9b0 : (a0 == 58) = false := beq_eq_false_iff_ne.mpr c9
            have c9b1 : (a0 != 58) = true := bne_iff_ne.mpr c9
            obtain rfl := Option.some.inj H
            go_enter Tryd.func68, Tryd.ntmps68
            go_wp2
            go_ret
            exact ⟨by first | rfl | (simp; done) | (simp [*]; done), by repeat (first | exact Drawn0.refl _ | apply Drawn0.step)⟩
  · rw [if_neg c2] at H
    have c2b0 : decide (97 ≤ a0) = false := decide_eq_false c2
    clear c2
    by_cases c10 : a0 ≥ 48
    · rw [if_pos c10] at H
      have c10b0 : decide (48 ≤ a0) = true := decide_eq_true c10
      clear c10
      by_cases c11 : a0 ≤ 57
      · rw [if_pos c11] at H
        have c11b0 : decide (a0 ≤ 57) = true := decide_eq_true c11
        clear c11
        obtain rfl := Option.some.inj H
        go_enter Tryd.func68, Tryd.ntmps68
        go_wp2
        go_ret
        exact ⟨by first | rfl | (simp; done) | (simp [*]; done), by repeat (first | exact Drawn0.refl _ | apply Drawn0.step)⟩
      · rw [if_neg c11] at H
        have c11b0 : decide (a0 ≤ 57) = false := decide_eq_false c11
        clear c11
        by_cases c12 : a0 = 64
        · rw [if_pos c12] at H
          have c12b0 : (a0 == 64) = true := beq_iff_eq.mpr c12
          have c12b1 : (a0 != 64) = false := bne_eq_false_iff_eq.mpr c12
          clear c12
          obtain rfl := Option.some.inj H
          go_enter Tryd.func68, Tryd.ntmps68
          go_wp2
          go_ret
          exact ⟨by first | rfl | (simp; done) | (simp [*]; done), by repeat (first | exact Drawn0.refl _ | apply Drawn0.step)⟩
        · rw [if_neg c12] at H
          have c12b0 : (a0 == 64) = false := beq_eq_false_iff_ne.mpr c12
          have c12b1 : (a0 != 64) = true := bne_iff_ne.mpr c12
          by_cases c13 : a0 = 58
          · rw [if_pos c13] at H
            have c13b0 : (a0 == 58) = true := beq_iff_eq.mpr c13
            have c13b1 : (a0 != 58) = false := bne_eq_false_iff_eq.mpr c13
            clear c13
            obtain rfl := Option.some.inj H
            go_enter Tryd.func68, Tryd.ntmps68
            go_wp2
            go_ret
            exact ⟨by first | rfl | (simp; done) | (simp [*]; done), by repeat (first | exact Drawn0.refl _ | apply Drawn0.step)⟩
          · rw [if_neg c13] at H
            have c13b0 : (a0 == 58) = false := beq_eq_false_iff_ne.mpr c13
            have c13b1 : (a0 != 58) = true := bne_iff_ne.mpr c13
            obtain rfl := Option.some.inj H
            go_enter Tryd.func68, Tryd.ntmps68
            go_wp2
            go_ret
            exact ⟨by first | rfl | (simp; done) | (simp [*]; done), by repeat (first | exact Drawn0.refl _ | apply Drawn0.step)⟩
    · rw [if_neg c10] at H
      have c10b0 : decide (48 ≤ a0) = false := decide_eq_false c10
      clear c10
      by_cases c14 : a0 = 64
      · rw [if_pos c14] at H
        have c14b0 : (a0 == 64) = true := beq_iff_eq.mpr c14
        have c14b1 : (a0 != 64) = false := bne_eq_false_iff_eq.mpr c14
        clear c14
        obtain rfl := Option.some.inj H
        go_enter Tryd.func68, Tryd.ntmps68
        go_wp2
        go_ret
        exact ⟨by first | rfl | (simp; done) | (simp [*]; done), by repeat (first | exact Drawn0.refl _ | apply Drawn0.step)⟩
      · rw [if_neg c14] at H
        have c14b0 : (a0 == 64) = false := beq_eq_false_iff_ne.mpr c14
        have c14b1 : (a0 != 64) = true := bne_iff_ne.mpr c14
        by_cases c15 : a0 = 58
        · rw [if_pos c15] at H
          have c15b0 : (a0 == 58) = true := beq_iff_eq.mpr c15
          have c15b1 : (a0 != 58) = false := bne_eq_false_iff_eq.mpr c15
          clear c15
          obtain rfl := Option.some.inj H
          go_enter Tryd.func68, Tryd.ntmps68
          go_wp2
          go_ret
          exact ⟨by first | rfl | (simp; done) | (simp [*]; done), by repeat (first | exact Drawn0.refl _ | apply Drawn0.step)⟩
        · rw [if_neg c15] at H
          have c15b0 : (a0 == 58) = false := beq_eq_false_iff_ne.mpr c15
          have c15b1 : (a0 != 58) = true := bne_iff_ne.mpr c15
          obtain rfl := Option.some.inj H
          go_enter Tryd.func68, Tryd.ntmps68
          go_wp2
          go_ret
          exact ⟨by first | rfl | (simp; done) | (simp [*]; done), by repeat (first | exact Drawn0.refl _ | apply Drawn0.step)⟩

/-! ### spec_TextOk: function 40 -/
def spec_TextOk.l0 : Nat → ByteArray → Int → Option (Bool)
  | 0, _, _ => none
  | k + 1, x0, x3 => if x3 < (x0.size : Int) then (if 0 ≤ x3 then ((spec_l2Byte.f (bt x0 x3)).bind fun t281 => (if t281 = true then (spec_TextOk.l0 k x0 (wrap64 (x3 + 1))) else (some false))) else (none)) else (some (decide ((x0.size : Int) ≤ 40)))
def spec_TextOk.f (k : Nat) (a0 : ByteArray) : Option (Bool) := spec_TextOk.l0 k a0 0
theorem spec_TextOk.mono_l : ∀ k, (∀ y0 y1, LeO (spec_TextOk.l0 k y0 y1) (spec_TextOk.l0 (k + 1) y0 y1))
  | 0 => fun _ _ r h => by simp [spec_TextOk.l0] at h
  | k + 1 => by
    have ih0 := spec_TextOk.mono_l k
    · intro y0 y1
      unfold spec_TextOk.l0
      repeat' first
      | (with_reducible exact ih0 _ _)
      | (with_reducible exact LeO.refl _)
      | (with_reducible exact LeO.none _)
      | (with_reducible refine LeO.ite ?_ ?_)
      | (with_reducible refine LeO.bind ?_ (fun _ => ?_))
      | exact ih0 _ _
      | exact LeO.none _
      | refine LeO.ite ?_ ?_
      | refine LeO.bind ?_ (fun _ => ?_)
theorem spec_TextOk.mono : ∀ a0 k, LeO (spec_TextOk.f k a0) (spec_TextOk.f (k + 1) a0) := by
  intro a0 k
  have ih0 := spec_TextOk.mono_l k
  unfold spec_TextOk.f
  repeat' first
      | (with_reducible exact ih0 _ _)
      | (with_reducible exact LeO.refl _)
      | (with_reducible exact LeO.none _)
      | (with_reducible refine LeO.ite ?_ ?_)
      | (with_reducible refine LeO.bind ?_ (fun _ => ?_))
      | exact ih0 _ _
      | exact LeO.none _
      | refine LeO.ite ?_ ?_
      | refine LeO.bind ?_ (fun _ => ?_)
set_option maxHeartbeats 8000000 in
set_option maxRecDepth 100000 in
theorem spec_TextOk.calls (k : Nat) (a0 : ByteArray) (r : Bool) (w : World) (h : spec_TextOk.f k a0 = some r) :
    Calls Tryd.prog 40 #[.string a0] w fun e w' => e = .returned (.bool r) ∧ Drawn0 w w' := by
  have H : (spec_TextOk.l0 k a0 0) = some r := h
  clear h
  have H' := Aside0.mk H
  clear H
  go_enter Tryd.func40, Tryd.ntmps40
  go_wp2
  go_loopg [3] k (fun kq v3 w' => ∃ (x3_1 : Int), v3 = .int .i64 x3_1 ∧ Aside0 (spec_TextOk.l0 kq a0 x3_1 = some r) ∧ Aside0 (kq ≤ k) ∧ Drawn0 w w')
  case atStart => exact ⟨(0), (by first | rfl | (simp; done) | (simp [*]; done)), H', ⟨Nat.le_refl _⟩, by repeat (first | exact Drawn0.refl _ | apply Drawn0.step)⟩
  case round =>
    clear H'
    obtain ⟨x3_1, rfl, HA, HK1, ⟨m1, rfl⟩⟩ := hrel
    cases gk with
    | zero => exact absurd HA.out (by simp [spec_TextOk.l0])
    | succ k1 =>
      have H := HA.out
      clear HA
      simp only [spec_TextOk.l0] at H
      by_cases c2 : x3_1 < (a0.size : Int)
      · rw [if_pos c2] at H
        have c2b0 : decide (x3_1 < (a0.size : Int)) = true := decide_eq_true c2
        clear c2
        by_cases c3 : 0 ≤ x3_1
        · rw [if_pos c3] at H
          have c3b0 : decide (0 ≤ x3_1) = true := decide_eq_true c3
          clear c3
          replace H := Option.bind_eq_some_iff.mp H
          obtain ⟨t281, A50, H⟩ := H
          replace H : (if t281 = true then (spec_TextOk.l0 k1 a0 (wrap64 (x3_1 + 1))) else (some false)) = some r := H
          have A5 := Aside0.mk A50
          clear A50
          by_cases c6 : t281 = true
          · subst c6
            have H1 : (spec_TextOk.l0 k1 a0 (wrap64 (x3_1 + 1))) = some r := by rw [if_pos rfl] at H; exact H
            clear H
            have H := H1
            clear H1
            have H' := Aside0.mk H
            clear H
            have p4 : 0 ≤ (x3_1 : Int) := of_decide_eq_true (by first | (with_reducible assumption) | assumption)
            have q4 : x3_1 < (a0.size : Int) := of_decide_eq_true (by first | (with_reducible assumption) | assumption)
            have hx4 := bt_at a0 x3_1
            replace p4 := eq_true p4
            replace q4 := eq_true q4
            go_wp2_with (first | ((with_reducible refine gate_callee (f := 68) rfl ?_); refine goesL_ (some 13) rfl rfl Tryd.func68 (by kernel_rfl) rfl #[.int .u8 (bt a0 x3_1)] rfl (by (try simp only [List.map_toArray, List.map_cons, List.map_nil]); first | done | rfl | (simp only [List.length_drop, List.length_take]; rfl)) ?_; (with_reducible refine (spec_l2Byte.calls (bt a0 x3_1) true _ A5.out).mono ?_); rintro e w' ⟨rfl, ⟨nd, rfl⟩⟩; refine ⟨_, rfl, ?_⟩))
            go_roundg k1
            case measure => have := HK1.out; omega
            case rel => exact ⟨(wrap64 (x3_1 + 1)), (by first | rfl | (simp; done) | (simp [*]; done)), H', ⟨by have := HK1.out; omega⟩, by repeat (first | exact Drawn0.refl _ | apply Drawn0.step)⟩
          · replace c6 := Bool.eq_false_iff.mpr c6
            subst c6
            have H1 : (some false) = some r := by rw [if_neg (show ¬ (false = true) by decide)] at H; exact H
            clear H
            have H := H1
            clear H1
            obtain rfl := Option.some.inj H
            have p4 : 0 ≤ (x3_1 : Int) := of_decide_eq_true (by first | (with_reducible assumption) | assumption)
            have q4 : x3_1 < (a0.size : Int) := of_decide_eq_true (by first | (with_reducible assumption) | assumption)
            have hx4 := bt_at a0 x3_1
            replace p4 := eq_true p4
            replace q4 := eq_true q4
            go_wp2_with (first | ((with_reducible refine gate_callee (f := 68) rfl ?_); refine goesL_ (some 13) rfl rfl Tryd.func68 (by kernel_rfl) rfl #[.int .u8 (bt a0 x3_1)] rfl (by (try simp only [List.map_toArray, List.map_cons, List.map_nil]); first | done | rfl | (simp only [List.length_drop, List.length_take]; rfl)) ?_; (with_reducible refine (spec_l2Byte.calls (bt a0 x3_1) false _ A5.out).mono ?_); rintro e w' ⟨rfl, ⟨nd, rfl⟩⟩; refine ⟨_, rfl, ?_⟩))
            go_ret
            exact ⟨by first | rfl | (simp; done) | (simp [*]; done), by repeat (first | exact Drawn0.refl _ | apply Drawn0.step)⟩
        · rw [if_neg c3] at H
          exact absurd H (by simp)
      · rw [if_neg c2] at H
        have c2b0 : decide (x3_1 < (a0.size : Int)) = false := decide_eq_false c2
        clear c2
        obtain rfl := Option.some.inj H
        go_wp2
        go_ret
        exact ⟨by first | rfl | (simp; done) | (simp [*]; done), by repeat (first | exact Drawn0.refl _ | apply Drawn0.step)⟩

end Go.Proofs.YtdphdheodloofaaDoor.A
