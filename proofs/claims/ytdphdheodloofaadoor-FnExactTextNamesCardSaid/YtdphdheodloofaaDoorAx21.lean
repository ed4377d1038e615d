-- Printed by myprint.py (wip/tools) out of the translation. Not trusted: Lean checks it.
import Derived.Test.YtdphdheodloofaaDoorAx0
import Derived.Test.YtdphdheodloofaaDoorAx3
import Derived.Test.YtdphdheodloofaaDoorAx7
import Derived.Test.YtdphdheodloofaaDoorAx10
namespace Go.Proofs.YtdphdheodloofaaDoor.A
open Go.RowKit Go.Proofs.YtdphdheodloofaaDoorW.PrintWords Go.Proofs.YtdphdheodloofaaDoorW.PrintLast Go.Proofs.YtdphdheodloofaaDoorW.PrintMore
attribute [local go_sem] max2_int min2_int max_two min_two max_three min_three max_four min_four   -- for this text's walks alone
set_option linter.unusedVariables false
set_option linter.unusedSimpArgs false

/-! ### impl_beginning: function 82 -/
/-- May this byte stand at this place of a name's beginning. -/
def begb (i : Nat) (c : Int) : Bool := if i = 0 then c == 64 else if i = 1 ∨ i = 3 then decide (49 ≤ c ∧ c ≤ 57) else if i = 2 then c == 58 else if i = 4 then decide (48 ≤ c ∧ c ≤ 57) else false
def impl_beginning.f (a0 : ByteArray) : Option (Bool) := if a0.size ≤ 140737488355328 then some ((List.range a0.size).all fun i => begb i (bt a0 i)) else none
theorem beg_cell (s : ByteArray) (k : Nat) (h : k < s.size) : ((s.data.toList.getD k 0).toNat : Int) = bt s k := by
  have h' : k < s.data.toList.length := by rw [data_length]; exact h
  simp [bt, h, List.getD_eq_getElem?_getD, List.getElem?_eq_getElem h']
  rfl
set_option maxHeartbeats 4000000 in
set_option maxRecDepth 100000 in
theorem impl_beginning.calls (a0 : ByteArray) (r : Bool) (w : World) (h : impl_beginning.f a0 = some r) :
    Calls Tryd.prog 82 #[.string a0] w fun e w' => e = .returned (.bool r) ∧ Below w.heap.size w w' := by
  unfold impl_beginning.f at h
  by_cases hs : a0.size ≤ 140737488355328
  · rw [if_pos hs] at h
    have HR := Aside0.mk (Option.some.inj h)
    clear h
    have kb := fun W => print_bytes (P := Tryd.prog) 9 22 5 Tryd.underlying9 Tryd.underlying22 Tryd.underlying5 a0 W
    go_enter Tryd.func82, Tryd.ntmps82
    go_wp2
    go_loopw [9] (fun i wr => ∃ k : Nat, k ≤ a0.size ∧ i = .int .i64 k ∧ Aside0 (∀ j : Nat, j < k → begb j (bt a0 j) = true) ∧ Aside0 (Drawn0 (Lib.bytesWorld w 5 a0) wr)) (fun i _ => a0.size - (intOf i).toNat)
    case atStart => exact ⟨0, Nat.zero_le _, rfl, ⟨fun j hj => absurd hj (Nat.not_lt_zero _)⟩, ⟨Drawn0.refl _⟩⟩
    case round =>
      obtain ⟨k, hk, rfl, hall, hd⟩ := hrel
      have hb := bt_range a0 k
      by_cases hlt : k < a0.size
      · have hcell : wr.cell? ⟨w.heap.size, k, none⟩ = some (.int .u8 (bt a0 k)) := by
          obtain ⟨⟨m, rfl⟩⟩ := hd.out
          show (Lib.bytesWorld w 5 a0).cell? _ = _
          rw [Lib.bytesWorld_cell w 5 a0 k hlt, beg_cell a0 k hlt]
        have hnext := fun (h1 : begb k (bt a0 k) = true) => Aside0.mk (show ∀ j : Nat, j < k + 1 → begb j (bt a0 j) = true from fun j hj => by
          by_cases e : j = k
          · subst e; exact h1
          · exact hall.out j (by omega))
        have hbad := fun (h1 : begb k (bt a0 k) = false) => Aside0.mk (show ((List.range a0.size).all fun i => begb i (bt a0 i)) = false from by
          rw [List.all_eq_false]
          exact ⟨k, List.mem_range.2 hlt, by rw [h1]; decide⟩)
        generalize bt a0 k = c at hb hcell hnext hbad
        clear hall
        by_cases k0 : k = 0
        · have hbb : begb k c = (c == 64) := by subst k0; rfl
          have e0 : ((k : Int) == 0) = true := beq_iff_eq.2 (by omega)
          have e1 : ((k : Int) == 1) = false := beq_eq_false_iff_ne.2 (by omega)
          have e3 : ((k : Int) == 3) = false := beq_eq_false_iff_ne.2 (by omega)
          have e2 : ((k : Int) == 2) = false := beq_eq_false_iff_ne.2 (by omega)
          have e4 : ((k : Int) == 4) = false := beq_eq_false_iff_ne.2 (by omega)
          clear k0
          by_cases d : c = 64
          · have hn := hnext (by rw [hbb]; exact beq_iff_eq.2 d)
            clear hnext hbad hbb
            have d1 : (c == 64) = true := beq_iff_eq.2 d
            clear d
            go_wp2
            go_roundw
            case rel => exact ⟨k + 1, by omega, by go_num, hn, ⟨hd.out⟩⟩
            case measure => simp [intOf]; omega
          · obtain rfl : r = false := by rw [← HR.out]; exact (hbad (by rw [hbb]; exact beq_eq_false_iff_ne.2 d)).out
            clear hnext hbad hbb
            have d1 : (c == 64) = false := beq_eq_false_iff_ne.2 d
            clear d
            go_wp2
            go_ret
            exact ⟨rfl, (bytes_below (Below.refl w.heap.size w) (Nat.le_refl _) 5 a0).trans ((hd.out).below.mono (by rw [Lib.bytesWorld_size]; omega))⟩
        · skip
          by_cases k1 : k = 1
          · have hbb : begb k c = decide (49 ≤ c ∧ c ≤ 57) := by subst k1; rfl
            have e0 : ((k : Int) == 0) = false := beq_eq_false_iff_ne.2 (by omega)
            have e1 : ((k : Int) == 1) = true := beq_iff_eq.2 (by omega)
            have e3 : ((k : Int) == 3) = false := beq_eq_false_iff_ne.2 (by omega)
            have e2 : ((k : Int) == 2) = false := beq_eq_false_iff_ne.2 (by omega)
            have e4 : ((k : Int) == 4) = false := beq_eq_false_iff_ne.2 (by omega)
            clear k0 k1
            by_cases d : 49 ≤ c ∧ c ≤ 57
            · have hn := hnext (by rw [hbb]; exact decide_eq_true d)
              clear hnext hbad hbb
              have HF := Aside0.mk (show impl_figure.f c 49 = some true by unfold impl_figure.f; rw [if_pos d.1, decide_eq_true d.2])
              clear d
              go_wp2_with (go_at_call 75; refine (impl_figure.calls c 49 true _ HF.out).mono ?_; rintro e w' ⟨rfl, ⟨nd, rfl⟩⟩)
              go_roundw
              case rel => exact ⟨k + 1, by omega, by go_num, hn, ⟨hd.out.step nd⟩⟩
              case measure => simp [intOf]; omega
            · obtain rfl : r = false := by rw [← HR.out]; exact (hbad (by rw [hbb]; exact decide_eq_false d)).out
              clear hnext hbad hbb
              have HF := Aside0.mk (show impl_figure.f c 49 = some false by
                unfold impl_figure.f
                by_cases e : c ≥ 49
                · rw [if_pos e, decide_eq_false (by omega)]
                · rw [if_neg e])
              clear d
              go_wp2_with (go_at_call 75; refine (impl_figure.calls c 49 false _ HF.out).mono ?_; rintro e w' ⟨rfl, ⟨nd, rfl⟩⟩)
              go_ret
              exact ⟨rfl, (bytes_below (Below.refl w.heap.size w) (Nat.le_refl _) 5 a0).trans ((hd.out.step nd).below.mono (by rw [Lib.bytesWorld_size]; omega))⟩
          · skip
            by_cases k2 : k = 2
            · have hbb : begb k c = (c == 58) := by subst k2; rfl
              have e0 : ((k : Int) == 0) = false := beq_eq_false_iff_ne.2 (by omega)
              have e1 : ((k : Int) == 1) = false := beq_eq_false_iff_ne.2 (by omega)
              have e3 : ((k : Int) == 3) = false := beq_eq_false_iff_ne.2 (by omega)
              have e2 : ((k : Int) == 2) = true := beq_iff_eq.2 (by omega)
              have e4 : ((k : Int) == 4) = false := beq_eq_false_iff_ne.2 (by omega)
              clear k0 k1 k2
              by_cases d : c = 58
              · have hn := hnext (by rw [hbb]; exact beq_iff_eq.2 d)
                clear hnext hbad hbb
                have d1 : (c == 58) = true := beq_iff_eq.2 d
                clear d
                go_wp2
                go_roundw
                case rel => exact ⟨k + 1, by omega, by go_num, hn, ⟨hd.out⟩⟩
                case measure => simp [intOf]; omega
              · obtain rfl : r = false := by rw [← HR.out]; exact (hbad (by rw [hbb]; exact beq_eq_false_iff_ne.2 d)).out
                clear hnext hbad hbb
                have d1 : (c == 58) = false := beq_eq_false_iff_ne.2 d
                clear d
                go_wp2
                go_ret
                exact ⟨rfl, (bytes_below (Below.refl w.heap.size w) (Nat.le_refl _) 5 a0).trans ((hd.out).below.mono (by rw [Lib.bytesWorld_size]; omega))⟩
            · skip
              by_cases k3 : k = 3
              · have hbb : begb k c = decide (49 ≤ c ∧ c ≤ 57) := by subst k3; rfl
                have e0 : ((k : Int) == 0) = false := beq_eq_false_iff_ne.2 (by omega)
                have e1 : ((k : Int) == 1) = false := beq_eq_false_iff_ne.2 (by omega)
                have e3 : ((k : Int) == 3) = true := beq_iff_eq.2 (by omega)
                have e2 : ((k : Int) == 2) = false := beq_eq_false_iff_ne.2 (by omega)
                have e4 : ((k : Int) == 4) = false := beq_eq_false_iff_ne.2 (by omega)
                clear k0 k1 k2 k3
                by_cases d : 49 ≤ c ∧ c ≤ 57
                · have hn := hnext (by rw [hbb]; exact decide_eq_true d)
                  clear hnext hbad hbb
                  have HF := Aside0.mk (show impl_figure.f c 49 = some true by unfold impl_figure.f; rw [if_pos d.1, decide_eq_true d.2])
                  clear d
                  go_wp2_with (go_at_call 75; refine (impl_figure.calls c 49 true _ HF.out).mono ?_; rintro e w' ⟨rfl, ⟨nd, rfl⟩⟩)
                  go_roundw
                  case rel => exact ⟨k + 1, by omega, by go_num, hn, ⟨hd.out.step nd⟩⟩
                  case measure => simp [intOf]; omega
                · obtain rfl : r = false := by rw [← HR.out]; exact (hbad (by rw [hbb]; exact decide_eq_false d)).out
                  clear hnext hbad hbb
                  have HF := Aside0.mk (show impl_figure.f c 49 = some false by
                    unfold impl_figure.f
                    by_cases e : c ≥ 49
                    · rw [if_pos e, decide_eq_false (by omega)]
                    · rw [if_neg e])
                  clear d
                  go_wp2_with (go_at_call 75; refine (impl_figure.calls c 49 false _ HF.out).mono ?_; rintro e w' ⟨rfl, ⟨nd, rfl⟩⟩)
                  go_ret
                  exact ⟨rfl, (bytes_below (Below.refl w.heap.size w) (Nat.le_refl _) 5 a0).trans ((hd.out.step nd).below.mono (by rw [Lib.bytesWorld_size]; omega))⟩
              · skip
                by_cases k4 : k = 4
                · have hbb : begb k c = decide (48 ≤ c ∧ c ≤ 57) := by subst k4; rfl
                  have e0 : ((k : Int) == 0) = false := beq_eq_false_iff_ne.2 (by omega)
                  have e1 : ((k : Int) == 1) = false := beq_eq_false_iff_ne.2 (by omega)
                  have e3 : ((k : Int) == 3) = false := beq_eq_false_iff_ne.2 (by omega)
                  have e2 : ((k : Int) == 2) = false := beq_eq_false_iff_ne.2 (by omega)
                  have e4 : ((k : Int) == 4) = true := beq_iff_eq.2 (by omega)
                  clear k0 k1 k2 k3 k4
                  by_cases d : 48 ≤ c ∧ c ≤ 57
                  · have hn := hnext (by rw [hbb]; exact decide_eq_true d)
                    clear hnext hbad hbb
                    have HF := Aside0.mk (show impl_figure.f c 48 = some true by unfold impl_figure.f; rw [if_pos d.1, decide_eq_true d.2])
                    clear d
                    go_wp2_with (go_at_call 75; refine (impl_figure.calls c 48 true _ HF.out).mono ?_; rintro e w' ⟨rfl, ⟨nd, rfl⟩⟩)
                    go_roundw
                    case rel => exact ⟨k + 1, by omega, by go_num, hn, ⟨hd.out.step nd⟩⟩
                    case measure => simp [intOf]; omega
                  · obtain rfl : r = false := by rw [← HR.out]; exact (hbad (by rw [hbb]; exact decide_eq_false d)).out
                    clear hnext hbad hbb
                    have HF := Aside0.mk (show impl_figure.f c 48 = some false by
                      unfold impl_figure.f
                      by_cases e : c ≥ 48
                      · rw [if_pos e, decide_eq_false (by omega)]
                      · rw [if_neg e])
                    clear d
                    go_wp2_with (go_at_call 75; refine (impl_figure.calls c 48 false _ HF.out).mono ?_; rintro e w' ⟨rfl, ⟨nd, rfl⟩⟩)
                    go_ret
                    exact ⟨rfl, (bytes_below (Below.refl w.heap.size w) (Nat.le_refl _) 5 a0).trans ((hd.out.step nd).below.mono (by rw [Lib.bytesWorld_size]; omega))⟩
                · skip
                  have hbb : begb k c = false := by unfold begb; rw [if_neg k0, if_neg (by omega), if_neg k2, if_neg k4]
                  have e0 : ((k : Int) == 0) = false := beq_eq_false_iff_ne.2 (by omega)
                  have e1 : ((k : Int) == 1) = false := beq_eq_false_iff_ne.2 (by omega)
                  have e3 : ((k : Int) == 3) = false := beq_eq_false_iff_ne.2 (by omega)
                  have e2 : ((k : Int) == 2) = false := beq_eq_false_iff_ne.2 (by omega)
                  have e4 : ((k : Int) == 4) = false := beq_eq_false_iff_ne.2 (by omega)
                  clear k0 k1 k2 k3 k4
                  obtain rfl : r = false := by rw [← HR.out]; exact (hbad hbb).out
                  clear hnext hbad hbb
                  go_wp2
                  go_ret
                  exact ⟨rfl, (bytes_below (Below.refl w.heap.size w) (Nat.le_refl _) 5 a0).trans ((hd.out).below.mono (by rw [Lib.bytesWorld_size]; omega))⟩
      · have hk2 : k = a0.size := by omega
        have hfin : Aside0 (r = true) := ⟨by
          rw [← HR.out, List.all_eq_true]
          intro x hx
          exact hall.out x (by have := List.mem_range.1 hx; omega)⟩
        clear hall hk2
        obtain rfl := hfin.out
        clear hfin
        go_wp2
        go_ret
        exact ⟨rfl, (bytes_below (Below.refl w.heap.size w) (Nat.le_refl _) 5 a0).trans (hd.out.below.mono (by rw [Lib.bytesWorld_size]; omega))⟩
  · rw [if_neg hs] at h; cases h

/-! ### impl_held: function 66 -/
def impl_held.l0 : Nat → ByteArray → Int → Option (Int)
  | 0, _, _ => none
  | k + 1, x0, x3 => if x3 > 0 then (if 0 ≤ (wrap64 ((x0.size : Int) - x3)) then (if (wrap64 ((x0.size : Int) - x3)) ≤ (x0.size : Int) then ((impl_beginning.f (x0.extract ((wrap64 ((x0.size : Int) - x3)) : Int).toNat x0.size)).bind fun t488 => (if t488 = true then (some x3) else (impl_held.l0 k x0 (wrap64 (x3 - 1))))) else (none)) else (none)) else (some 0)
def impl_held.f (k : Nat) (a0 : ByteArray) : Option (Int) := impl_held.l0 k a0 (mn 5 (a0.size : Int))
theorem impl_held.mono_l : ∀ k, (∀ y0 y1, LeO (impl_held.l0 k y0 y1) (impl_held.l0 (k + 1) y0 y1))
  | 0 => fun _ _ r h => by simp [impl_held.l0] at h
  | k + 1 => by
    have ih0 := impl_held.mono_l k
    · intro y0 y1
      unfold impl_held.l0
      repeat' first
      | (with_reducible exact ih0 _ _)
      | (with_reducible exact LeO.refl _)
      | (with_reducible exact LeO.none _)
      | (with_reducible refine LeO.ite ?_ ?_)
      | (with_reducible refine LeO.bind ?_ (fun _ => ?_))
      | exact ih0 _ _
      | exact LeO.none _
      | refine LeO.ite ?_ ?_
      | refine LeO.bind ?_ (fun _ => ?_)
theorem impl_held.mono : ∀ a0 k, LeO (impl_held.f k a0) (impl_held.f (k + 1) a0) := by
  intro a0 k
  have ih0 := impl_held.mono_l k
  unfold impl_held.f
  repeat' first
      | (with_reducible exact ih0 _ _)
      | (with_reducible exact LeO.refl _)
      | (with_reducible exact LeO.none _)
      | (with_reducible refine LeO.ite ?_ ?_)
      | (with_reducible refine LeO.bind ?_ (fun _ => ?_))
      | exact ih0 _ _
      | exact LeO.none _
      | refine LeO.ite ?_ ?_
      | refine LeO.bind ?_ (fun _ => ?_)
set_option maxHeartbeats 8000000 in
set_option maxRecDepth 100000 in
theorem impl_held.calls (k : Nat) (a0 : ByteArray) (r : Int) (w : World) (h : impl_held.f k a0 = some r) :
    Calls Tryd.prog 66 #[.string a0] w fun e w' => e = .returned (.int .i64 r) ∧ Below w.heap.size w w' := by
  have HB := Aside0.mk (Below.refl w.heap.size w)
  have H : (impl_held.l0 k a0 (mn 5 (a0.size : Int))) = some r := h
  clear h
  obtain ⟨ji2, hji2⟩ : ∃ j_ : Int, (mn 5 (a0.size : Int)) = j_ := ⟨_, rfl⟩
  replace H : (impl_held.l0 k a0 ji2) = some r := by first | (rw [hji2] at H; exact H) | (simp only [hji2] at H ⊢; exact H)
  (try (have hji2h : ji2 ≤ 5 := by (rw [← hji2]; unfold mn; (repeat' split) <;> omega)))
  (try (have hji2g : ji2 ≤ 64 := by omega))
  (try (have hji2l : 0 ≤ ji2 := by (rw [← hji2]; unfold mn; (repeat' split) <;> omega)))
  (try (have hji2m : 0 ≤ ji2 := by omega))
  have hji2_ : (if (a0.size : Int) < 5 then (a0.size : Int) else 5) = ji2 := hji2
  have H' := Aside0.mk H
  clear H
  go_enter Tryd.func66, Tryd.ntmps66
  go_wp2
  go_loopg [3] k (fun kq v3 w' => ∃ (x3_1 : Int), v3 = .int .i64 x3_1 ∧ Aside0 (impl_held.l0 kq a0 x3_1 = some r) ∧ Aside0 (kq ≤ k) ∧ Aside0 (Below w.heap.size w w'))
  case atStart => exact ⟨(ji2), (by first | rfl | (simp; done) | (simp only [← hji2] <;> (first | rfl | simp)) | (simp [*]; done)), H', ⟨Nat.le_refl _⟩, ⟨by repeat (first | (with_reducible first | exact HB.out | apply below_alloc | apply pw_below_drewN | apply below_drew1) | exact HB.out)⟩⟩
  case round =>
    clear H'
    try clear p2
    obtain ⟨x3_1, rfl, HA, HK1, HB⟩ := hrel
    cases gk with
    | zero => exact absurd HA.out (by simp [impl_held.l0])
    | succ k1 =>
      have H := HA.out
      clear HA
      simp only [impl_held.l0] at H
      by_cases c3 : x3_1 > 0
      · rw [if_pos c3] at H
        have c3b0 : decide (0 < x3_1) = true := decide_eq_true c3
        clear c3
        obtain ⟨ji4, hji4⟩ : ∃ j_ : Int, (wrap64 ((a0.size : Int) - x3_1)) = j_ := ⟨_, rfl⟩
        replace H : (if 0 ≤ (ji4) then (if (ji4) ≤ (a0.size : Int) then ((impl_beginning.f (a0.extract ((ji4) : Int).toNat a0.size)).bind fun t488 => (if t488 = true then (some x3_1) else (impl_held.l0 k1 a0 (wrap64 (x3_1 - 1))))) else (none)) else (none)) = some r := by first | (rw [hji4] at H; exact H) | (simp only [hji4] at H ⊢; exact H)
        have hji4w : (IntKind.i64.wrap ((a0.size : Int) - x3_1)) = ji4 := (i64_w _).trans hji4
        by_cases c5 : 0 ≤ (ji4)
        · rw [if_pos c5] at H
          have c5b0 := eq_true c5
          have c5b1 : decide (0 ≤ (ji4)) = true := decide_eq_true c5
          clear c5
          by_cases c6 : (ji4) ≤ (a0.size : Int)
          · rw [if_pos c6] at H
            have c6b0 := eq_true c6
            have c6b1 : decide ((ji4) ≤ (a0.size : Int)) = true := decide_eq_true c6
            clear c6
            replace H := Option.bind_eq_some_iff.mp H
            obtain ⟨t488, A70, H⟩ := H
            replace H : (if t488 = true then (some x3_1) else (impl_held.l0 k1 a0 (wrap64 (x3_1 - 1)))) = some r := H
            have A7 := Aside0.mk A70
            clear A70
            by_cases c8 : t488 = true
            · subst c8
              have H1 : (some x3_1) = some r := by rw [if_pos rfl] at H; exact H
              clear H
              have H := H1
              clear H1
              obtain rfl := Option.some.inj H
              go_wp2_with (first | ((with_reducible refine gate_callee (f := 82) rfl ?_); refine goesL_ (some 17) rfl rfl Tryd.func82 (by kernel_rfl) rfl #[.string (a0.extract ((ji4) : Int).toNat a0.size)] rfl (by (try simp only [List.map_toArray, List.map_cons, List.map_nil]); first | done | (simp only [hji4]; rfl) | rfl | (simp only [List.length_drop, List.length_take]; rfl)) ?_; (with_reducible refine (impl_beginning.calls (a0.extract ((ji4) : Int).toNat a0.size) true _ A7.out).mono ?_); rintro e w9 ⟨rfl, hb⟩; refine ⟨_, rfl, ?_⟩; have n0_ := Aside0.mk (below_step (by repeat (first | (with_reducible first | exact HB.out | apply below_alloc | apply pw_below_drewN | apply below_drew1) | exact HB.out)) hb); clear HB; have HB := n0_; clear n0_; (try clear hb); (try clear hb2); (try clear hk); (try clear hi)))
              go_ret
              exact ⟨by first | rfl | (simp [errW_none, errW_some] <;> rfl) | (simp only [← hji2, ← hji4]; first | rfl | (simp [errW_none, errW_some] <;> rfl)) | (simp [*, errW_none, errW_some] <;> rfl) | (simp [errW_none, errW_some, pk_empty1, pk_empty2]; done) | (simp [*, errW_none, errW_some, pk_empty1, pk_empty2]; done), by repeat (first | (with_reducible first | exact HB.out | apply below_alloc | apply pw_below_drewN | apply below_drew1) | exact HB.out)⟩
            · replace c8 := Bool.eq_false_iff.mpr c8
              subst c8
              have H1 : (impl_held.l0 k1 a0 (wrap64 (x3_1 - 1))) = some r := by rw [if_neg (show ¬ (false = true) by decide)] at H; exact H
              clear H
              have H := H1
              clear H1
              have H' := Aside0.mk H
              clear H
              go_wp2_with (first | ((with_reducible refine gate_callee (f := 82) rfl ?_); refine goesL_ (some 17) rfl rfl Tryd.func82 (by kernel_rfl) rfl #[.string (a0.extract ((ji4) : Int).toNat a0.size)] rfl (by (try simp only [List.map_toArray, List.map_cons, List.map_nil]); first | done | (simp only [hji4]; rfl) | rfl | (simp only [List.length_drop, List.length_take]; rfl)) ?_; (with_reducible refine (impl_beginning.calls (a0.extract ((ji4) : Int).toNat a0.size) false _ A7.out).mono ?_); rintro e w10 ⟨rfl, hb⟩; refine ⟨_, rfl, ?_⟩; have n0_ := Aside0.mk (below_step (by repeat (first | (with_reducible first | exact HB.out | apply below_alloc | apply pw_below_drewN | apply below_drew1) | exact HB.out)) hb); clear HB; have HB := n0_; clear n0_; (try clear hb); (try clear hb2); (try clear hk); (try clear hi)))
              go_roundg k1
              case measure => have := HK1.out; omega
              case rel => exact ⟨(wrap64 (x3_1 - 1)), (by first | rfl | (simp; done) | (simp [*]; done)), H', ⟨by have := HK1.out; omega⟩, ⟨by repeat (first | (with_reducible first | exact HB.out | apply below_alloc | apply pw_below_drewN | apply below_drew1) | exact HB.out)⟩⟩
          · rw [if_neg c6] at H
            exact absurd H (by simp)
        · rw [if_neg c5] at H
          exact absurd H (by simp)
      · rw [if_neg c3] at H
        have c3b0 : decide (0 < x3_1) = false := decide_eq_false c3
        clear c3
        obtain rfl := Option.some.inj H
        go_wp2
        go_ret
        exact ⟨by first | rfl | (simp [errW_none, errW_some] <;> rfl) | (simp only [← hji2]; first | rfl | (simp [errW_none, errW_some] <;> rfl)) | (simp [*, errW_none, errW_some] <;> rfl) | (simp [errW_none, errW_some, pk_empty1, pk_empty2]; done) | (simp [*, errW_none, errW_some, pk_empty1, pk_empty2]; done), by repeat (first | (with_reducible first | exact HB.out | apply below_alloc | apply pw_below_drewN | apply below_drew1) | exact HB.out)⟩

/-! ### spec_l2Begins: function 83 -/
def spec_l2Begins.f (a0 : ByteArray) : Option (Bool) := (spec_l6In.f (a0.size : Int) 1 5).bind fun t491 => (if t491 = true then (if 0 < (a0.size : Int) then (if (bt a0 0) = 64 then (if (a0.size : Int) > 1 then (if 1 < (a0.size : Int) then ((spec_l1Digit.f (bt a0 1)).bind fun t492 => (if t492 < 1 then (some false) else (if (a0.size : Int) > 2 then (if 2 < (a0.size : Int) then (if (bt a0 2) = 58 then (if (a0.size : Int) > 3 then (if 3 < (a0.size : Int) then ((spec_l1Digit.f (bt a0 3)).bind fun t493 => (if t493 < 1 then (some false) else (if (a0.size : Int) < 5 then (some true) else (if 4 < (a0.size : Int) then ((spec_l1Digit.f (bt a0 4)).bind fun t494 => (some (decide (t494 ≥ 0)))) else (none))))) else (none)) else (if (a0.size : Int) < 5 then (some true) else (if 4 < (a0.size : Int) then ((spec_l1Digit.f (bt a0 4)).bind fun t495 => (some (decide (t495 ≥ 0)))) else (none)))) else (some false)) else (none)) else (if (a0.size : Int) > 3 then (if 3 < (a0.size : Int) then ((spec_l1Digit.f (bt a0 3)).bind fun t496 => (if t496 < 1 then (some false) else (if (a0.size : Int) < 5 then (some true) else (if 4 < (a0.size : Int) then ((spec_l1Digit.f (bt a0 4)).bind fun t497 => (some (decide (t497 ≥ 0)))) else (none))))) else (none)) else (if (a0.size : Int) < 5 then (some true) else (if 4 < (a0.size : Int) then ((spec_l1Digit.f (bt a0 4)).bind fun t498 => (some (decide (t498 ≥ 0)))) else (none))))))) else (none)) else (if (a0.size : Int) > 2 then (if 2 < (a0.size : Int) then (if (bt a0 2) = 58 then (if (a0.size : Int) > 3 then (if 3 < (a0.size : Int) then ((spec_l1Digit.f (bt a0 3)).bind fun t499 => (if t499 < 1 then (some false) else (if (a0.size : Int) < 5 then (some true) else (if 4 < (a0.size : Int) then ((spec_l1Digit.f (bt a0 4)).bind fun t500 => (some (decide (t500 ≥ 0)))) else (none))))) else (none)) else (if (a0.size : Int) < 5 then (some true) else (if 4 < (a0.size : Int) then ((spec_l1Digit.f (bt a0 4)).bind fun t501 => (some (decide (t501 ≥ 0)))) else (none)))) else (some false)) else (none)) else (if (a0.size : Int) > 3 then (if 3 < (a0.size : Int) then ((spec_l1Digit.f (bt a0 3)).bind fun t502 => (if t502 < 1 then (some false) else (if (a0.size : Int) < 5 then (some true) else (if 4 < (a0.size : Int) then ((spec_l1Digit.f (bt a0 4)).bind fun t503 => (some (decide (t503 ≥ 0)))) else (none))))) else (none)) else (if (a0.size : Int) < 5 then (some true) else (if 4 < (a0.size : Int) then ((spec_l1Digit.f (bt a0 4)).bind fun t504 => (some (decide (t504 ≥ 0)))) else (none)))))) else (some false)) else (none)) else (some false))
set_option maxHeartbeats 8000000 in
set_option maxRecDepth 100000 in
theorem spec_l2Begins.calls (a0 : ByteArray) (r : Bool) (w : World) (h : spec_l2Begins.f a0 = some r) :
    Calls Tryd.prog 83 #[.string a0] w fun e w' => e = .returned (.bool r) ∧ Drawn0 w w' := by
  have H : ((spec_l6In.f (a0.size : Int) 1 5).bind fun t491 => (if t491 = true then (if 0 < (a0.size : Int) then (if (bt a0 0) = 64 then (if (a0.size : Int) > 1 then (if 1 < (a0.size : Int) then ((spec_l1Digit.f (bt a0 1)).bind fun t492 => (if t492 < 1 then (some false) else (if (a0.size : Int) > 2 then (if 2 < (a0.size : Int) then (if (bt a0 2) = 58 then (if (a0.size : Int) > 3 then (if 3 < (a0.size : Int) then ((spec_l1Digit.f (bt a0 3)).bind fun t493 => (if t493 < 1 then (some false) else (if (a0.size : Int) < 5 then (some true) else (if 4 < (a0.size : Int) then ((spec_l1Digit.f (bt a0 4)).bind fun t494 => (some (decide (t494 ≥ 0)))) else (none))))) else (none)) else (if (a0.size : Int) < 5 then (some true) else (if 4 < (a0.size : Int) then ((spec_l1Digit.f (bt a0 4)).bind fun t495 => (some (decide (t495 ≥ 0)))) else (none)))) else (some false)) else (none)) else (if (a0.size : Int) > 3 then (if 3 < (a0.size : Int) then ((spec_l1Digit.f (bt a0 3)).bind fun t496 => (if t496 < 1 then (some false) else (if (a0.size : Int) < 5 then (some true) else (if 4 < (a0.size : Int) then ((spec_l1Digit.f (bt a0 4)).bind fun t497 => (some (decide (t497 ≥ 0)))) else (none))))) else (none)) else (if (a0.size : Int) < 5 then (some true) else (if 4 < (a0.size : Int) then ((spec_l1Digit.f (bt a0 4)).bind fun t498 => (some (decide (t498 ≥ 0)))) else (none))))))) else (none)) else (if (a0.size : Int) > 2 then (if 2 < (a0.size : Int) then (if (bt a0 2) = 58 then (if (a0.size : Int) > 3 then (if 3 < (a0.size : Int) then ((spec_l1Digit.f (bt a0 3)).bind fun t499 => (if t499 < 1 then (some false) else (if (a0.size : Int) < 5 then (some true) else (if 4 < (a0.size : Int) then ((spec_l1Digit.f (bt a0 4)).bind fun t500 => (some (decide (t500 ≥ 0)))) else (none))))) else (none)) else (if (a0.size : Int) < 5 then (some true) else (if 4 < (a0.size : Int) then ((spec_l1Digit.f (bt a0 4)).bind fun t501 => (some (decide (t501 ≥ 0)))) else (none)))) else (some false)) else (none)) else (if (a0.size : Int) > 3 then (if 3 < (a0.size : Int) then ((spec_l1Digit.f (bt a0 3)).bind fun t502 => (if t502 < 1 then (some false) else (if (a0.size : Int) < 5 then (some true) else (if 4 < (a0.size : Int) then ((spec_l1Digit.f (bt a0 4)).bind fun t503 => (some (decide (t503 ≥ 0)))) else (none))))) else (none)) else (if (a0.size : Int) < 5 then (some true) else (if 4 < (a0.size : Int) then ((spec_l1Digit.f (bt a0 4)).bind fun t504 => (some (decide (t504 ≥ 0)))) else (none)))))) else (some false)) else (none)) else (some false))) = some r := h
  clear h
  replace H := Option.bind_eq_some_iff.mp H
  obtain ⟨t491, A20, H⟩ := H
  replace H : (if t491 = true then (if 0 < (a0.size : Int) then (if (bt a0 0) = 64 then (if (a0.size : Int) > 1 then (if 1 < (a0.size : Int) then ((spec_l1Digit.f (bt a0 1)).bind fun t492 => (if t492 < 1 then (some false) else (if (a0.size : Int) > 2 then (if 2 < (a0.size : Int) then (if (bt a0 2) = 58 then (if (a0.size : Int) > 3 then (if 3 < (a0.size : Int) then ((spec_l1Digit.f (bt a0 3)).bind fun t493 => (if t493 < 1 then (some false) else (if (a0.size : Int) < 5 then (some true) else (if 4 < (a0.size : Int) then ((spec_l1Digit.f (bt a0 4)).bind fun t494 => (some (decide (t494 ≥ 0)))) else (none))))) else (none)) else (if (a0.size : Int) < 5 then (some true) else (if 4 < (a0.size : Int) then ((spec_l1Digit.f (bt a0 4)).bind fun t495 => (some (decide (t495 ≥ 0)))) else (none)))) else (some false)) else (none)) else (if (a0.size : Int) > 3 then (if 3 < (a0.size : Int) then ((spec_l1Digit.f (bt a0 3)).bind fun t496 => (if t496 < 1 then (some false) else (if (a0.size : Int) < 5 then (some true) else (if 4 < (a0.size : Int) then ((spec_l1Digit.f (bt a0 4)).bind fun t497 => (some (decide (t497 ≥ 0)))) else (none))))) else (none)) else (if (a0.size : Int) < 5 then (some true) else (if 4 < (a0.size : Int) then ((spec_l1Digit.f (bt a0 4)).bind fun t498 => (some (decide (t498 ≥ 0)))) else (none))))))) else (none)) else (if (a0.size : Int) > 2 then (if 2 < (a0.size : Int) then (if (bt a0 2) = 58 then (if (a0.size : Int) > 3 then (if 3 < (a0.size : Int) then ((spec_l1Digit.f (bt a0 3)).bind fun t499 => (if t499 < 1 then (some false) else (if (a0.size : Int) < 5 then (some true) else (if 4 < (a0.size : Int) then ((spec_l1Digit.f (bt a0 4)).bind fun t500 => (some (decide (t500 ≥ 0)))) else (none))))) else (none)) else (if (a0.size : Int) < 5 then (some true) else (if 4 < (a0.size : Int) then ((spec_l1Digit.f (bt a0 4)).bind fun t501 => (some (decide (t501 ≥ 0)))) else (none)))) else (some false)) else (none)) else (if (a0.size : Int) > 3 then (if 3 < (a0.size : Int) then ((spec_l1Digit.f (bt a0 3)).bind fun t502 => (if t502 < 1 then (some false) else (if (a0.size : Int) < 5 then (some true) else (if 4 < (a0.size : Int) then ((spec_l1Digit.f (bt a0 4)).bind fun t503 => (some (decide (t503 ≥ 0)))) else (none))))) else (none)) else (if (a0.size : Int) < 5 then (some true) else (if 4 < (a0.size : Int) then ((spec_l1Digit.f (bt a0 4)).bind fun t504 => (some (decide (t504 ≥ 0)))) else (none)))))) else (some false)) else (none)) else (some false)) = some r := H
  have A2 := Aside0.mk A20
  clear A20
  by_cases c3 : t491 = true
  · subst c3
    have H1 : (if 0 < (a0.size : Int) then (if (bt a0 0) = 64 then (if (a0.size : Int) > 1 then (if 1 < (a0.size : Int) then ((spec_l1Digit.f (bt a0 1)).bind fun t492 => (if t492 < 1 then (some false) else (if (a0.size : Int) > 2 then (if 2 < (a0.size : Int) then (if (bt a0 2) = 58 then (if (a0.size : Int) > 3 then (if 3 < (a0.size : Int) then ((spec_l1Digit.f (bt a0 3)).bind fun t493 => (if t493 < 1 then (some false) else (if (a0.size : Int) < 5 then (some true) else (if 4 < (a0.size : Int) then ((spec_l1Digit.f (bt a0 4)).bind fun t494 => (some (decide (t494 ≥ 0)))) else (none))))) else (none)) else (if (a0.size : Int) < 5 then (some true) else (if 4 < (a0.size : Int) then ((spec_l1Digit.f (bt a0 4)).bind fun t495 => (some (decide (t495 ≥ 0)))) else (none)))) else (some false)) else (none)) else (if (a0.size : Int) > 3 then (if 3 < (a0.size : Int) then ((spec_l1Digit.f (bt a0 3)).bind fun t496 => (if t496 < 1 then (some false) else (if (a0.size : Int) < 5 then (some true) else (if 4 < (a0.size : Int) then ((spec_l1Digit.f (bt a0 4)).bind fun t497 => (some (decide (t497 ≥ 0)))) else (none))))) else (none)) else (if (a0.size : Int) < 5 then (some true) else (if 4 < (a0.size : Int) then ((spec_l1Digit.f (bt a0 4)).bind fun t498 => (some (decide (t498 ≥ 0)))) else (none))))))) else (none)) else (if (a0.size : Int) > 2 then (if 2 < (a0.size : Int) then (if (bt a0 2) = 58 then (if (a0.size : Int) > 3 then (if 3 < (a0.size : Int) then ((spec_l1Digit.f (bt a0 3)).bind fun t499 => (if t499 < 1 then (some false) else (if (a0.size : Int) < 5 then (some true) else (if 4 < (a0.size : Int) then ((spec_l1Digit.f (bt a0 4)).bind fun t500 => (some (decide (t500 ≥ 0)))) else (none))))) else (none)) else (if (a0.size : Int) < 5 then (some true) else (if 4 < (a0.size : Int) then ((spec_l1Digit.f (bt a0 4)).bind fun t501 => (some (decide (t501 ≥ 0)))) else (none)))) else (some false)) else (none)) else (if (a0.size : Int) > 3 then (if 3 < (a0.size : Int) then ((spec_l1Digit.f (bt a0 3)).bind fun t502 => (if t502 < 1 then (some false) else (if (a0.size : Int) < 5 then (some true) else (if 4 < (a0.size : Int) then ((spec_l1Digit.f (bt a0 4)).bind fun t503 => (some (decide (t503 ≥ 0)))) else (none))))) else (none)) else (if (a0.size : Int) < 5 then (some true) else (if 4 < (a0.size : Int) then ((spec_l1Digit.f (bt a0 4)).bind fun t504 => (some (decide (t504 ≥ 0)))) else (none)))))) else (some false)) else (none)) = some r := by rw [if_pos rfl] at H; exact H
    clear H
    have H := H1
    clear H1
    by_cases c4 : 0 < (a0.size : Int)
    · rw [if_pos c4] at H
      have c4b0 : decide (0 < (a0.size : Int)) = true := decide_eq_true c4
      have c4b1 : decide (0 < a0.size) = true := decide_eq_true (by omega)
      clear c4
      by_cases c6 : (bt a0 0) = 64
      · rw [if_pos c6] at H
        have c6b0 : ((bt a0 0) == 64) = true := beq_iff_eq.mpr c6
        have c6b1 : ((bt a0 0) != 64) = false := bne_eq_false_iff_eq.mpr c6
        clear c6
        by_cases c7 : (a0.size : Int) > 1
        · rw [if_pos c7] at H
          have c7b0 : decide (1 < (a0.size : Int)) = true := decide_eq_true c7
          have c7b1 : decide (1 < a0.size) = true := decide_eq_true (by omega)
          clear c7
          by_cases c8 : 1 < (a0.size : Int)
          · rw [if_pos c8] at H
            have c8b0 : decide (1 < (a0.size : Int)) = true := decide_eq_true c8
            have c8b1 : decide (1 < a0.size) = true := decide_eq_true (by omega)
            clear c8
            replace H := Option.bind_eq_some_iff.mp H
            obtain ⟨t492, A100, H⟩ := H
            replace H : (if t492 < 1 then (some false) else (if (a0.size : Int) > 2 then (if 2 < (a0.size : Int) then (if (bt a0 2) = 58 then (if (a0.size : Int) > 3 then (if 3 < (a0.size : Int) then ((spec_l1Digit.f (bt a0 3)).bind fun t493 => (if t493 < 1 then (some false) else (if (a0.size : Int) < 5 then (some true) else (if 4 < (a0.size : Int) then ((spec_l1Digit.f (bt a0 4)).bind fun t494 => (some (decide (t494 ≥ 0)))) else (none))))) else (none)) else (if (a0.size : Int) < 5 then (some true) else (if 4 < (a0.size : Int) then ((spec_l1Digit.f (bt a0 4)).bind fun t495 => (some (decide (t495 ≥ 0)))) else (none)))) else (some false)) else (none)) else (if (a0.size : Int) > 3 then (if 3 < (a0.size : Int) then ((spec_l1Digit.f (bt a0 3)).bind fun t496 => (if t496 < 1 then (some false) else (if (a0.size : Int) < 5 then (some true) else (if 4 < (a0.size : Int) then ((spec_l1Digit.f (bt a0 4)).bind fun t497 => (some (decide (t497 ≥ 0)))) else (none))))) else (none)) else (if (a0.size : Int) < 5 then (some true) else (if 4 < (a0.size : Int) then ((spec_l1Digit.f (bt a0 4)).bind fun t498 => (some (decide (t498 ≥ 0)))) else (none)))))) = some r := H
            have A10 := Aside0.mk A100
            clear A100
            by_cases c11 : t492 < 1
            · rw [if_pos c11] at H
              have c11b0 : decide (t492 < 1) = true := decide_eq_true c11
              clear c11
              obtain rfl := Option.some.inj H
              go_enter Tryd.func83, Tryd.ntmps83
              go_wp2_with (first | ((with_reducible refine gate_callee (f := 51) rfl ?_); refine goesL_ (some 7) rfl rfl Tryd.func51 (by kernel_rfl) rfl #[.int .i64 (a0.size : Int), .int .i64 1, .int .i64 5] rfl (by (try simp only [List.map_toArray, List.map_cons, List.map_nil]); first | done | rfl | (simp only [List.length_drop, List.length_take]; rfl)) ?_; (with_reducible refine (spec_l6In.calls (a0.size : Int) 1 5 true _ A2.out).mono ?_); rintro e w' ⟨rfl, ⟨nd, rfl⟩⟩; refine ⟨_, rfl, ?_⟩; have p5 : 0 ≤ (0 : Int) := (by omega); have q5 : 0 < a0.size := (by have : (0 : Int) < (a0.size : Int) := of_decide_eq_true (by first | (with_reducible assumption) | assumption); omega); have hx5 : ∀ h : 0 < a0.size, ((a0[0]'h).toNat : Int) = bt a0 0 := bt_at a0 0; clear p5; have qi5 : (0 < (a0.size : Int)) = True := eq_true (of_decide_eq_true (by first | (with_reducible assumption) | assumption)); replace q5 := eq_true q5; have p9 : 0 ≤ (1 : Int) := (by omega); have q9 : 1 < a0.size := (by have : (1 : Int) < (a0.size : Int) := of_decide_eq_true (by first | (with_reducible assumption) | assumption); omega); have hx9 : ∀ h : 1 < a0.size, ((a0[1]'h).toNat : Int) = bt a0 1 := bt_at a0 1; clear p9; have qi9 : (1 < (a0.size : Int)) = True := eq_true (of_decide_eq_true (by first | (with_reducible assumption) | assumption)); replace q9 := eq_true q9) | (go_at_call 61; (with_reducible refine (spec_l1Digit.calls (bt a0 1) t492 _ A10.out).mono ?_); rintro e w' ⟨rfl, ⟨nd, rfl⟩⟩))
              go_ret
              exact ⟨by first | rfl | (simp; done) | (simp [*]; done), by repeat (first | exact Drawn0.refl _ | apply Drawn0.step)⟩
            · rw [if_neg c11] at H
              have c11b0 : decide (t492 < 1) = false := decide_eq_false c11
              clear c11
              by_cases c12 : (a0.size : Int) > 2
              · rw [if_pos c12] at H
                have c12b0 : decide (2 < (a0.size : Int)) = true := decide_eq_true c12
                have c12b1 : decide (2 < a0.size) = true := decide_eq_true (by omega)
                clear c12
                by_cases c13 : 2 < (a0.size : Int)
                · rw [if_pos c13] at H
                  have c13b0 : decide (2 < (a0.size : Int)) = true := decide_eq_true c13
                  have c13b1 : decide (2 < a0.size) = true := decide_eq_true (by omega)
                  clear c13
                  by_cases c15 : (bt a0 2) = 58
                  · rw [if_pos c15] at H
                    have c15b0 : ((bt a0 2) == 58) = true := beq_iff_eq.mpr c15
                    have c15b1 : ((bt a0 2) != 58) = false := bne_eq_false_iff_eq.mpr c15
                    clear c15
                    by_cases c16 : (a0.size : Int) > 3
                    · rw [if_pos c16] at H
                      have c16b0 : decide (3 < (a0.size : Int)) = true := decide_eq_true c16
                      have c16b1 : decide (3 < a0.size) = true := decide_eq_true (by omega)
                      clear c16
                      by_cases c17 : 3 < (a0.size : Int)
                      · rw [if_pos c17] at H
                        have c17b0 : decide (3 < (a0.size : Int)) = true := decide_eq_true c17
                        have c17b1 : decide (3 < a0.size) = true := decide_eq_true (by omega)
                        clear c17
                        replace H := Option.bind_eq_some_iff.mp H
                        obtain ⟨t493, A190, H⟩ := H
                        replace H : (if t493 < 1 then (some false) else (if (a0.size : Int) < 5 then (some true) else (if 4 < (a0.size : Int) then ((spec_l1Digit.f (bt a0 4)).bind fun t494 => (some (decide (t494 ≥ 0)))) else (none)))) = some r := H
                        have A19 := Aside0.mk A190
                        clear A190
                        by_cases c20 : t493 < 1
                        · rw [if_pos c20] at H
                          have c20b0 : decide (t493 < 1) = true := decide_eq_true c20
                          clear c20
                          obtain rfl := Option.some.inj H
                          go_enter Tryd.func83, Tryd.ntmps83
                          go_wp2_with (first | ((with_reducible refine gate_callee (f := 51) rfl ?_); refine goesL_ (some 7) rfl rfl Tryd.func51 (by kernel_rfl) rfl #[.int .i64 (a0.size : Int), .int .i64 1, .int .i64 5] rfl (by (try simp only [List.map_toArray, List.map_cons, List.map_nil]); first | done | rfl | (simp only [List.length_drop, List.length_take]; rfl)) ?_; (with_reducible refine (spec_l6In.calls (a0.size : Int) 1 5 true _ A2.out).mono ?_); rintro e w' ⟨rfl, ⟨nd, rfl⟩⟩; refine ⟨_, rfl, ?_⟩; have p5 : 0 ≤ (0 : Int) := (by omega); have q5 : 0 < a0.size := (by have : (0 : Int) < (a0.size : Int) := of_decide_eq_true (by first | (with_reducible assumption) | assumption); omega); have hx5 : ∀ h : 0 < a0.size, ((a0[0]'h).toNat : Int) = bt a0 0 := bt_at a0 0; clear p5; have qi5 : (0 < (a0.size : Int)) = True := eq_true (of_decide_eq_true (by first | (with_reducible assumption) | assumption)); replace q5 := eq_true q5; have p9 : 0 ≤ (1 : Int) := (by omega); have q9 : 1 < a0.size := (by have : (1 : Int) < (a0.size : Int) := of_decide_eq_true (by first | (with_reducible assumption) | assumption); omega); have hx9 : ∀ h : 1 < a0.size, ((a0[1]'h).toNat : Int) = bt a0 1 := bt_at a0 1; clear p9; have qi9 : (1 < (a0.size : Int)) = True := eq_true (of_decide_eq_true (by first | (with_reducible assumption) | assumption)); replace q9 := eq_true q9) | (go_at_call 61; (with_reducible refine (spec_l1Digit.calls (bt a0 1) t492 _ A10.out).mono ?_); rintro e w' ⟨rfl, ⟨nd, rfl⟩⟩; have p14 : 0 ≤ (2 : Int) := (by omega); have q14 : 2 < a0.size := (by have : (2 : Int) < (a0.size : Int) := of_decide_eq_true (by first | (with_reducible assumption) | assumption); omega); have hx14 : ∀ h : 2 < a0.size, ((a0[2]'h).toNat : Int) = bt a0 2 := bt_at a0 2; clear p14; have qi14 : (2 < (a0.size : Int)) = True := eq_true (of_decide_eq_true (by first | (with_reducible assumption) | assumption)); replace q14 := eq_true q14; have p18 : 0 ≤ (3 : Int) := (by omega); have q18 : 3 < a0.size := (by have : (3 : Int) < (a0.size : Int) := of_decide_eq_true (by first | (with_reducible assumption) | assumption); omega); have hx18 : ∀ h : 3 < a0.size, ((a0[3]'h).toNat : Int) = bt a0 3 := bt_at a0 3; clear p18; have qi18 : (3 < (a0.size : Int)) = True := eq_true (of_decide_eq_true (by first | (with_reducible assumption) | assumption)); replace q18 := eq_true q18) | (go_at_call 61; (with_reducible refine (spec_l1Digit.calls (bt a0 3) t493 _ A19.out).mono ?_); rintro e w' ⟨rfl, ⟨nd, rfl⟩⟩))
                          go_ret
                          exact ⟨by first | rfl | (simp; done) | (simp [*]; done), by repeat (first | exact Drawn0.refl _ | apply Drawn0.step)⟩
                        · rw [if_neg c20] at H
                          have c20b0 : decide (t493 < 1) = false := decide_eq_false c20
                          clear c20
                          by_cases c21 : (a0.size : Int) < 5
                          · rw [if_pos c21] at H
                            have c21b0 : decide ((a0.size : Int) < 5) = true := decide_eq_true c21
                            have c21b1 : decide (a0.size < 5) = true := decide_eq_true (by omega)
                            clear c21
                            obtain rfl := Option.some.inj H
                            go_enter Tryd.func83, Tryd.ntmps83
                            go_wp2_with (first | ((with_reducible refine gate_callee (f := 51) rfl ?_); refine goesL_ (some 7) rfl rfl Tryd.func51 (by kernel_rfl) rfl #[.int .i64 (a0.size : Int), .int .i64 1, .int .i64 5] rfl (by (try simp only [List.map_toArray, List.map_cons, List.map_nil]); first | done | rfl | (simp only [List.length_drop, List.length_take]; rfl)) ?_; (with_reducible refine (spec_l6In.calls (a0.size : Int) 1 5 true _ A2.out).mono ?_); rintro e w' ⟨rfl, ⟨nd, rfl⟩⟩; refine ⟨_, rfl, ?_⟩; have p5 : 0 ≤ (0 : Int) := (by omega); have q5 : 0 < a0.size := (by have : (0 : Int) < (a0.size : Int) := of_decide_eq_true (by first | (with_reducible assumption) | assumption); omega); have hx5 : ∀ h : 0 < a0.size, ((a0[0]'h).toNat : Int) = bt a0 0 := bt_at a0 0; clear p5; have qi5 : (0 < (a0.size : Int)) = True := eq_true (of_decide_eq_true (by first | (with_reducible assumption) | assumption)); replace q5 := eq_true q5; have p9 : 0 ≤ (1 : Int) := (by omega); have q9 : 1 < a0.size := (by have : (1 : Int) < (a0.size : Int) := of_decide_eq_true (by first | (with_reducible assumption) | assumption); omega); have hx9 : ∀ h : 1 < a0.size, ((a0[1]'h).toNat : Int) = bt a0 1 := bt_at a0 1; clear p9; have qi9 : (1 < (a0.size : Int)) = True := eq_true (of_decide_eq_true (by first | (with_reducible assumption) | assumption)); replace q9 := eq_true q9) | (go_at_call 61; (with_reducible refine (spec_l1Digit.calls (bt a0 1) t492 _ A10.out).mono ?_); rintro e w' ⟨rfl, ⟨nd, rfl⟩⟩; have p14 : 0 ≤ (2 : Int) := (by omega); have q14 : 2 < a0.size := (by have : (2 : Int) < (a0.size : Int) := of_decide_eq_true (by first | (with_reducible assumption) | assumption); omega); have hx14 : ∀ h : 2 < a0.size, ((a0[2]'h).toNat : Int) = bt a0 2 := bt_at a0 2; clear p14; have qi14 : (2 < (a0.size : Int)) = True := eq_true (of_decide_eq_true (by first | (with_reducible assumption) | assumption)); replace q14 := eq_true q14; have p18 : 0 ≤ (3 : Int) := (by omega); have q18 : 3 < a0.size := (by have : (3 : Int) < (a0.size : Int) := of_decide_eq_true (by first | (with_reducible assumption) | assumption); omega); have hx18 : ∀ h : 3 < a0.size, ((a0[3]'h).toNat : Int) = bt a0 3 := bt_at a0 3; clear p18; have qi18 : (3 < (a0.size : Int)) = True := eq_true (of_decide_eq_true (by first | (with_reducible assumption) | assumption)); replace q18 := eq_true q18) | (go_at_call 61; (with_reducible refine (spec_l1Digit.calls (bt a0 3) t493 _ A19.out).mono ?_); rintro e w' ⟨rfl, ⟨nd, rfl⟩⟩))
                            go_ret
                            exact ⟨by first | rfl | (simp; done) | (simp [*]; done), by repeat (first | exact Drawn0.refl _ | apply Drawn0.step)⟩
                          · rw [if_neg c21] at H
                            have c21b0 : decide ((a0.size : Int) < 5) = false := decide_eq_false c21
                            have c21b1 : decide (a0.size < 5) = false := decide_eq_false (by omega)
                            clear c21
                            by_cases c22 : 4 < (a0.size : Int)
                            · rw [if_pos c22] at H
                              have c22b0 : decide (4 < (a0.size : Int)) = true := decide_eq_true c22
                              have c22b1 : decide (4 < a0.size) = true := decide_eq_true (by omega)
                              clear c22
                              replace H := Option.bind_eq_some_iff.mp H
                              obtain ⟨t494, A240, H⟩ := H
                              replace H : (some (decide (t494 ≥ 0))) = some r := H
                              have A24 := Aside0.mk A240
                              clear A240
                              obtain rfl := Option.some.inj H
                              go_enter Tryd.func83, Tryd.ntmps83
                              go_wp2_with (first | ((with_reducible refine gate_callee (f := 51) rfl ?_); refine goesL_ (some 7) rfl rfl Tryd.func51 (by kernel_rfl) rfl #[.int .i64 (a0.size : Int), .int .i64 1, .int .i64 5] rfl (by (try simp only [List.map_toArray, List.map_cons, List.map_nil]); first | done | rfl | (simp only [List.length_drop, List.length_take]; rfl)) ?_; (with_reducible refine (spec_l6In.calls (a0.size : Int) 1 5 true _ A2.out).mono ?_); rintro e w' ⟨rfl, ⟨nd, rfl⟩⟩; refine ⟨_, rfl, ?_⟩; have p5 : 0 ≤ (0 : Int) := (by omega); have q5 : 0 < a0.size := (by have : (0 : Int) < (a0.size : Int) := of_decide_eq_true (by first | (with_reducible assumption) | assumption); omega); have hx5 : ∀ h : 0 < a0.size, ((a0[0]'h).toNat : Int) = bt a0 0 := bt_at a0 0; clear p5; have qi5 : (0 < (a0.size : Int)) = True := eq_true (of_decide_eq_true (by first | (with_reducible assumption) | assumption)); replace q5 := eq_true q5; have p9 : 0 ≤ (1 : Int) := (by omega); have q9 : 1 < a0.size := (by have : (1 : Int) < (a0.size : Int) := of_decide_eq_true (by first | (with_reducible assumption) | assumption); omega); have hx9 : ∀ h : 1 < a0.size, ((a0[1]'h).toNat : Int) = bt a0 1 := bt_at a0 1; clear p9; have qi9 : (1 < (a0.size : Int)) = True := eq_true (of_decide_eq_true (by first | (with_reducible assumption) | assumption)); replace q9 := eq_true q9) | (go_at_call 61; (with_reducible refine (spec_l1Digit.calls (bt a0 1) t492 _ A10.out).mono ?_); rintro e w' ⟨rfl, ⟨nd, rfl⟩⟩; have p14 : 0 ≤ (2 : Int) := (by omega); have q14 : 2 < a0.size := (by have : (2 : Int) < (a0.size : Int) := of_decide_eq_true (by first | (with_reducible assumption) | assumption); omega); have hx14 : ∀ h : 2 < a0.size, ((a0[2]'h).toNat : Int) = bt a0 2 := bt_at a0 2; clear p14; have qi14 : (2 < (a0.size : Int)) = True := eq_true (of_decide_eq_true (by first | (with_reducible assumption) | assumption)); replace q14 := eq_true q14; have p18 : 0 ≤ (3 : Int) := (by omega); have q18 : 3 < a0.size := (by have : (3 : Int) < (a0.size : Int) := of_decide_eq_true (by first | (with_reducible assumption) | assumption); omega); have hx18 : ∀ h : 3 < a0.size, ((a0[3]'h).toNat : Int) = bt a0 3 := bt_at a0 3; clear p18; have qi18 : (3 < (a0.size : Int)) = True := eq_true (of_decide_eq_true (by first | (with_reducible assumption) | assumption)); replace q18 := eq_true q18) | (go_at_call 61; (with_reducible refine (spec_l1Digit.calls (bt a0 3) t493 _ A19.out).mono ?_); rintro e w' ⟨rfl, ⟨nd, rfl⟩⟩; have p23 : 0 ≤ (4 : Int) := (by omega); have q23 : 4 < a0.size := (by have : (4 : Int) < (a0.size : Int) := of_decide_eq_true (by first | (with_reducible assumption) | assumption); omega); have hx23 : ∀ h : 4 < a0.size, ((a0[4]'h).toNat : Int) = bt a0 4 := bt_at a0 4; clear p23; have qi23 : (4 < (a0.size : Int)) = True := eq_true (of_decide_eq_true (by first | (with_reducible assumption) | assumption)); replace q23 := eq_true q23) | (go_at_call 61; (with_reducible refine (spec_l1Digit.calls (bt a0 4) t494 _ A24.out).mono ?_); rintro e w' ⟨rfl, ⟨nd, rfl⟩⟩))
                              go_ret
                              exact ⟨by first | rfl | (simp; done) | (simp [*]; done), by repeat (first | exact Drawn0.refl _ | apply Drawn0.step)⟩
                            · rw [if_neg c22] at H
                              exact absurd H (by simp)
                      · rw [if_neg c17] at H
                        exact absurd H (by simp)
                    · rw [if_neg c16] at H
                      have c16b0 : decide (3 < (a0.size : Int)) = false := decide_eq_false c16
                      have c16b1 : decide (3 < a0.size) = false := decide_eq_false (by omega)
                      clear c16
                      by_cases c25 : (a0.size : Int) < 5
                      · rw [if_pos c25] at H
                        have c25b0 : decide ((a0.size : Int) < 5) = true := decide_eq_true c25
                        have c25b1 : decide (a0.size < 5) = true := decide_eq_true (by omega)
                        clear c25
                        obtain rfl := Option.some.inj H
                        go_enter Tryd.func83, Tryd.ntmps83
                        go_wp2_with (first | ((with_reducible refine gate_callee (f := 51) rfl ?_); refine goesL_ (some 7) rfl rfl Tryd.func51 (by kernel_rfl) rfl #[.int .i64 (a0.size : Int), .int .i64 1, .int .i64 5] rfl (by (try simp only [List.map_toArray, List.map_cons, List.map_nil]); first | done | rfl | (simp only [List.length_drop, List.length_take]; rfl)) ?_; (with_reducible refine (spec_l6In.calls (a0.size : Int) 1 5 true _ A2.out).mono ?_); rintro e w' ⟨rfl, ⟨nd, rfl⟩⟩; refine ⟨_, rfl, ?_⟩; have p5 : 0 ≤ (0 : Int) := (by omega); have q5 : 0 < a0.size := (by have : (0 : Int) < (a0.size : Int) := of_decide_eq_true (by first | (with_reducible assumption) | assumption); omega); have hx5 : ∀ h : 0 < a0.size, ((a0[0]'h).toNat : Int) = bt a0 0 := bt_at a0 0; clear p5; have qi5 : (0 < (a0.size : Int)) = True := eq_true (of_decide_eq_true (by first | (with_reducible assumption) | assumption)); replace q5 := eq_true q5; have p9 : 0 ≤ (1 : Int) := (by omega); have q9 : 1 < a0.size := (by have : (1 : Int) < (a0.size : Int) := of_decide_eq_true (by first | (with_reducible assumption) | assumption); omega); have hx9 : ∀ h : 1 < a0.size, ((a0[1]'h).toNat : Int) = bt a0 1 := bt_at a0 1; clear p9; have qi9 : (1 < (a0.size : Int)) = True := eq_true (of_decide_eq_true (by first | (with_reducible assumption) | assumption)); replace q9 := eq_true q9) | (go_at_call 61; (with_reducible refine (spec_l1Digit.calls (bt a0 1) t492 _ A10.out).mono ?_); rintro e w' ⟨rfl, ⟨nd, rfl⟩⟩; have p14 : 0 ≤ (2 : Int) := (by omega); have q14 : 2 < a0.size := (by have : (2 : Int) < (a0.size : Int) := of_decide_eq_true (by first | (with_reducible assumption) | assumption); omega); have hx14 : ∀ h : 2 < a0.size, ((a0[2]'h).toNat : Int) = bt a0 2 := bt_at a0 2; clear p14; have qi14 : (2 < (a0.size : Int)) = True := eq_true (of_decide_eq_true (by first | (with_reducible assumption) | assumption)); replace q14 := eq_true q14))
                        go_ret
                        exact ⟨by first | rfl | (simp; done) | (simp [*]; done), by repeat (first | exact Drawn0.refl _ | apply Drawn0.step)⟩
                      · rw [if_neg c25] at H
                        have c25b0 : decide ((a0.size : Int) < 5) = false := decide_eq_false c25
                        have c25b1 : decide (a0.size < 5) = false := decide_eq_false (by omega)
                        clear c25
                        by_cases c26 : 4 < (a0.size : Int)
                        · rw [if_pos c26] at H
                          have c26b0 : decide (4 < (a0.size : Int)) = true := decide_eq_true c26
                          have c26b1 : decide (4 < a0.size) = true := decide_eq_true (by omega)
                          clear c26
                          replace H := Option.bind_eq_some_iff.mp H
                          obtain ⟨t495, A280, H⟩ := H
                          replace H : (some (decide (t495 ≥ 0))) = some r := H
                          have A28 := Aside0.mk A280
                          clear A280
                          obtain rfl := Option.some.inj H
                          go_enter Tryd.func83, Tryd.ntmps83
                          go_wp2_with (first | ((with_reducible refine gate_callee (f := 51) rfl ?_); refine goesL_ (some 7) rfl rfl Tryd.func51 (by kernel_rfl) rfl #[.int .i64 (a0.size : Int), .int .i64 1, .int .i64 5] rfl (by (try simp only [List.map_toArray, List.map_cons, List.map_nil]); first | done | rfl | (simp only [List.length_drop, List.length_take]; rfl)) ?_; (with_reducible refine (spec_l6In.calls (a0.size : Int) 1 5 true _ A2.out).mono ?_); rintro e w' ⟨rfl, ⟨nd, rfl⟩⟩; refine ⟨_, rfl, ?_⟩; have p5 : 0 ≤ (0 : Int) := (by omega); have q5 : 0 < a0.size := (by have : (0 : Int) < (a0.size : Int) := of_decide_eq_true (by first | (with_reducible assumption) | assumption); omega); have hx5 : ∀ h : 0 < a0.size, ((a0[0]'h).toNat : Int) = bt a0 0 := bt_at a0 0; clear p5; have qi5 : (0 < (a0.size : Int)) = True := eq_true (of_decide_eq_true (by first | (with_reducible assumption) | assumption)); replace q5 := eq_true q5; have p9 : 0 ≤ (1 : Int) := (by omega); have q9 : 1 < a0.size := (by have : (1 : Int) < (a0.size : Int) := of_decide_eq_true (by first | (with_reducible assumption) | assumption); omega); have hx9 : ∀ h : 1 < a0.size, ((a0[1]'h).toNat : Int) = bt a0 1 := bt_at a0 1; clear p9; have qi9 : (1 < (a0.size : Int)) = True := eq_true (of_decide_eq_true (by first | (with_reducible assumption) | assumption)); replace q9 := eq_true q9) | (go_at_call 61; (with_reducible refine (spec_l1Digit.calls (bt a0 1) t492 _ A10.out).mono ?_); rintro e w' ⟨rfl, ⟨nd, rfl⟩⟩; have p14 : 0 ≤ (2 : Int) := (by omega); have q14 : 2 < a0.size := (by have : (2 : Int) < (a0.size : Int) := of_decide_eq_true (by first | (with_reducible assumption) | assumption); omega); have hx14 : ∀ h : 2 < a0.size, ((a0[2]'h).toNat : Int) = bt a0 2 := bt_at a0 2; clear p14; have qi14 : (2 < (a0.size : Int)) = True := eq_true (of_decide_eq_true (by first | (with_reducible assumption) | assumption)); replace q14 := eq_true q14; have p27 : 0 ≤ (4 : Int) := (by omega); have q27 : 4 < a0.size := (by have : (4 : Int) < (a0.size : Int) := of_decide_eq_true (by first | (with_reducible assumption) | assumption); omega); have hx27 : ∀ h : 4 < a0.size, ((a0[4]'h).toNat : Int) = bt a0 4 := bt_at a0 4; clear p27; have qi27 : (4 < (a0.size : Int)) = True := eq_true (of_decide_eq_true (by first | (with_reducible assumption) | assumption)); replace q27 := eq_true q27) | (go_at_call 61; (with_reducible refine (spec_l1Digit.calls (bt a0 4) t495 _ A28.out).mono ?_); rintro e w' ⟨rfl, ⟨nd, rfl⟩⟩))
                          go_ret
                          exact ⟨by first | rfl | (simp; done) | (simp [*]; done), by repeat (first | exact Drawn0.refl _ | apply Drawn0.step)⟩
                        · rw [if_neg c26] at H
                          exact absurd H (by simp)
                  · rw [if_neg c15] at H
                    have c15b0 : ((bt a0 2) == 58) = false := beq_eq_false_iff_ne.mpr c15
                    have c15b1 : ((bt a0 2) != 58) = true := bne_iff_ne.mpr c15
                    obtain rfl := Option.some.inj H
                    go_enter Tryd.func83, Tryd.ntmps83
                    go_wp2_with (first | ((with_reducible refine gate_callee (f := 51) rfl ?_); refine goesL_ (some 7) rfl rfl Tryd.func51 (by kernel_rfl) rfl #[.int .i64 (a0.size : Int), .int .i64 1, .int .i64 5] rfl (by (try simp only [List.map_toArray, List.map_cons, List.map_nil]); first | done | rfl | (simp only [List.length_drop, List.length_take]; rfl)) ?_; (with_reducible refine (spec_l6In.calls (a0.size : Int) 1 5 true _ A2.out).mono ?_); rintro e w' ⟨rfl, ⟨nd, rfl⟩⟩; refine ⟨_, rfl, ?_⟩; have p5 : 0 ≤ (0 : Int) := (by omega); have q5 : 0 < a0.size := (by have : (0 : Int) < (a0.size : Int) := of_decide_eq_true (by first | (with_reducible assumption) | assumption); omega); have hx5 : ∀ h : 0 < a0.size, ((a0[0]'h).toNat : Int) = bt a0 0 := bt_at a0 0; clear p5; have qi5 : (0 < (a0.size : Int)) = True := eq_true (of_decide_eq_true (by first | (with_reducible assumption) | assumption)); replace q5 := eq_true q5; have p9 : 0 ≤ (1 : Int) := (by omega); have q9 : 1 < a0.size := (by have : (1 : Int) < (a0.size : Int) := of_decide_eq_true (by first | (with_reducible assumption) | assumption); omega); have hx9 : ∀ h : 1 < a0.size, ((a0[1]'h).toNat : Int) = bt a0 1 := bt_at a0 1; clear p9; have qi9 : (1 < (a0.size : Int)) = True := eq_true (of_decide_eq_true (by first | (with_reducible assumption) | assumption)); replace q9 := eq_true q9) | (go_at_call 61; (with_reducible refine (spec_l1Digit.calls (bt a0 1) t492 _ A10.out).mono ?_); rintro e w' ⟨rfl, ⟨nd, rfl⟩⟩; have p14 : 0 ≤ (2 : Int) := (by omega); have q14 : 2 < a0.size := (by have : (2 : Int) < (a0.size : Int) := of_decide_eq_true (by first | (with_reducible assumption) | assumption); omega); have hx14 : ∀ h : 2 < a0.size, ((a0[2]'h).toNat : Int) = bt a0 2 := bt_at a0 2; clear p14; have qi14 : (2 < (a0.size : Int)) = True := eq_true (of_decide_eq_true (by first | (with_reducible assumption) | assumption)); replace q14 := eq_true q14))
                    go_ret
                    exact ⟨by first | rfl | (simp; done) | (simp [*]; done), by repeat (first | exact Drawn0.refl _ | apply Drawn0.step)⟩
                · rw [if_neg c13] at H
                  exact absurd H (by simp)
              · rw [if_neg c12] at H
                have c12b0 : decide (2 < (a0.size : Int)) = false := decide_eq_false c12
                have c12b1 : decide (2 < a0.size) = false := decide_eq_false (by omega)
                clear c12
                by_cases c29 : (a0.size : Int) > 3
                · rw [if_pos c29] at H
                  have c29b0 : decide (3 < (a0.size : Int)) = true := decide_eq_true c29
                  have c29b1 : decide (3 < a0.size) = true := decide_eq_true (by omega)
                  clear c29
                  by_cases c30 : 3 < (a0.size : Int)
                  · rw [if_pos c30] at H
                    have c30b0 : decide (3 < (a0.size : Int)) = true := decide_eq_true c30
                    have c30b1 : decide (3 < a0.size) = true := decide_eq_true (by omega)
                    clear c30
                    replace H := Option.bind_eq_some_iff.mp H
                    obtain ⟨t496, A320, H⟩ := H
                    replace H : (if t496 < 1 then (some false) else (if (a0.size : Int) < 5 then (some true) else (if 4 < (a0.size : Int) then ((spec_l1Digit.f (bt a0 4)).bind fun t497 => (some (decide (t497 ≥ 0)))) else (none)))) = some r := H
                    have A32 := Aside0.mk A320
                    clear A320
                    by_cases c33 : t496 < 1
                    · rw [if_pos c33] at H
                      have c33b0 : decide (t496 < 1) = true := decide_eq_true c33
                      clear c33
                      obtain rfl := Option.some.inj H
                      go_enter Tryd.func83, Tryd.ntmps83
                      go_wp2_with (first | ((with_reducible refine gate_callee (f := 51) rfl ?_); refine goesL_ (some 7) rfl rfl Tryd.func51 (by kernel_rfl) rfl #[.int .i64 (a0.size : Int), .int .i64 1, .int .i64 5] rfl (by (try simp only [List.map_toArray, List.map_cons, List.map_nil]); first | done | rfl | (simp only [List.length_drop, List.length_take]; rfl)) ?_; (with_reducible refine (spec_l6In.calls (a0.size : Int) 1 5 true _ A2.out).mono ?_); rintro e w' ⟨rfl, ⟨nd, rfl⟩⟩; refine ⟨_, rfl, ?_⟩; have p5 : 0 ≤ (0 : Int) := (by omega); have q5 : 0 < a0.size := (by have : (0 : Int) < (a0.size : Int) := of_decide_eq_true (by first | (with_reducible assumption) | assumption); omega); have hx5 : ∀ h : 0 < a0.size, ((a0[0]'h).toNat : Int) = bt a0 0 := bt_at a0 0; clear p5; have qi5 : (0 < (a0.size : Int)) = True := eq_true (of_decide_eq_true (by first | (with_reducible assumption) | assumption)); replace q5 := eq_true q5; have p9 : 0 ≤ (1 : Int) := (by omega); have q9 : 1 < a0.size := (by have : (1 : Int) < (a0.size : Int) := of_decide_eq_true (by first | (with_reducible assumption) | assumption); omega); have hx9 : ∀ h : 1 < a0.size, ((a0[1]'h).toNat : Int) = bt a0 1 := bt_at a0 1; clear p9; have qi9 : (1 < (a0.size : Int)) = True := eq_true (of_decide_eq_true (by first | (with_reducible assumption) | assumption)); replace q9 := eq_true q9) | (go_at_call 61; (with_reducible refine (spec_l1Digit.calls (bt a0 1) t492 _ A10.out).mono ?_); rintro e w' ⟨rfl, ⟨nd, rfl⟩⟩; have p31 : 0 ≤ (3 : Int) := (by omega); have q31 : 3 < a0.size := (by have : (3 : Int) < (a0.size : Int) := of_decide_eq_true (by first | (with_reducible assumption) | assumption); omega); have hx31 : ∀ h : 3 < a0.size, ((a0[3]'h).toNat : Int) = bt a0 3 := bt_at a0 3; clear p31; have qi31 : (3 < (a0.size : Int)) = True := eq_true (of_decide_eq_true (by first | (with_reducible assumption) | assumption)); replace q31 := eq_true q31) | (go_at_call 61; (with_reducible refine (spec_l1Digit.calls (bt a0 3) t496 _ A32.out).mono ?_); rintro e w' ⟨rfl, ⟨nd, rfl⟩⟩))
                      go_ret
                      exact ⟨by first | rfl | (simp; done) | (simp [*]; done), by repeat (first | exact Drawn0.refl _ | apply Drawn0.step)⟩
                    · rw [if_neg c33] at H
                      have c33b0 : decide (t496 < 1) = false := decide_eq_false c33
                      clear c33
                      by_cases c34 : (a0.size : Int) < 5
                      · rw [if_pos c34] at H
                        have c34b0 : decide ((a0.size : Int) < 5) = true := decide_eq_true c34
                        have c34b1 : decide (a0.size < 5) = true := decide_eq_true (by omega)
                        clear c34
                        obtain rfl := Option.some.inj H
                        go_enter Tryd.func83, Tryd.ntmps83
                        go_wp2_with (first | ((with_reducible refine gate_callee (f := 51) rfl ?_); refine goesL_ (some 7) rfl rfl Tryd.func51 (by kernel_rfl) rfl #[.int .i64 (a0.size : Int), .int .i64 1, .int .i64 5] rfl (by (try simp only [List.map_toArray, List.map_cons, List.map_nil]); first | done | rfl | (simp only [List.length_drop, List.length_take]; rfl)) ?_; (with_reducible refine (spec_l6In.calls (a0.size : Int) 1 5 true _ A2.out).mono ?_); rintro e w' ⟨rfl, ⟨nd, rfl⟩⟩; refine ⟨_, rfl, ?_⟩; have p5 : 0 ≤ (0 : Int) := (by omega); have q5 : 0 < a0.size := (by have : (0 : Int) < (a0.size : Int) := of_decide_eq_true (by first | (with_reducible assumption) | assumption); omega); have hx5 : ∀ h : 0 < a0.size, ((a0[0]'h).toNat : Int) = bt a0 0 := bt_at a0 0; clear p5; have qi5 : (0 < (a0.size : Int)) = True := eq_true (of_decide_eq_true (by first | (with_reducible assumption) | assumption)); replace q5 := eq_true q5; have p9 : 0 ≤ (1 : Int) := (by omega); have q9 : 1 < a0.size := (by have : (1 : Int) < (a0.size : Int) := of_decide_eq_true (by first | (with_reducible assumption) | assumption); omega); have hx9 : ∀ h : 1 < a0.size, ((a0[1]'h).toNat : Int) = bt a0 1 := bt_at a0 1; clear p9; have qi9 : (1 < (a0.size : Int)) = True := eq_true (of_decide_eq_true (by first | (with_reducible assumption) | assumption)); replace q9 := eq_true q9) | (go_at_call 61; (with_reducible refine (spec_l1Digit.calls (bt a0 1) t492 _ A10.out).mono ?_); rintro e w' ⟨rfl, ⟨nd, rfl⟩⟩; have p31 : 0 ≤ (3 : Int) := (by omega); have q31 : 3 < a0.size := (by have : (3 : Int) < (a0.size : Int) := of_decide_eq_true (by first | (with_reducible assumption) | assumption); omega); have hx31 : ∀ h : 3 < a0.size, ((a0[3]'h).toNat : Int) = bt a0 3 := bt_at a0 3; clear p31; have qi31 : (3 < (a0.size : Int)) = True := eq_true (of_decide_eq_true (by first | (with_reducible assumption) | assumption)); replace q31 := eq_true q31) | (go_at_call 61; (with_reducible refine (spec_l1Digit.calls (bt a0 3) t496 _ A32.out).mono ?_); rintro e w' ⟨rfl, ⟨nd, rfl⟩⟩))
                        go_ret
                        exact ⟨by first | rfl | (simp; done) | (simp [*]; done), by repeat (first | exact Drawn0.refl _ | apply Drawn0.step)⟩
                      · rw [if_neg c34] at H
                        have c34b0 : decide ((a0.size : Int) < 5) = false := decide_eq_false c34
                        have c34b1 : decide (a0.size < 5) = false := decide_eq_false (by omega)
                        clear c34
                        by_cases c35 : 4 < (a0.size : Int)
                        · rw [if_pos c35] at H
                          have c35b0 : decide (4 < (a0.size : Int)) = true := decide_eq_true c35
                          have c35b1 : decide (4 < a0.size) = true := decide_eq_true (by omega)
                          clear c35
                          replace H := Option.bind_eq_some_iff.mp H
                          obtain ⟨t497, A370, H⟩ := H
                          replace H : (some (decide (t497 ≥ 0))) = some r := H
                          have A37 := Aside0.mk A370
                          clear A370
                          obtain rfl := Option.some.inj H
                          go_enter Tryd.func83, Tryd.ntmps83
                          go_wp2_with (first | ((with_reducible refine gate_callee (f := 51) rfl ?_); refine goesL_ (some 7) rfl rfl Tryd.func51 (by kernel_rfl) rfl #[.int .i64 (a0.size : Int), .int .i64 1, .int .i64 5] rfl (by (try simp only [List.map_toArray, List.map_cons, List.map_nil]); first | done | rfl | (simp only [List.length_drop, List.length_take]; rfl)) ?_; (with_reducible refine (spec_l6In.calls (a0.size : Int) 1 5 true _ A2.out).mono ?_); rintro e w' ⟨rfl, ⟨nd, rfl⟩⟩; refine ⟨_, rfl, ?_⟩; have p5 : 0 ≤ (0 : Int) := (by omega); have q5 : 0 < a0.size := (by have : (0 : Int) < (a0.size : Int) := of_decide_eq_true (by first | (with_reducible assumption) | assumption); omega); have hx5 : ∀ h : 0 < a0.size, ((a0[0]'h).toNat : Int) = bt a0 0 := bt_at a0 0; clear p5; have qi5 : (0 < (a0.size : Int)) = True := eq_true (of_decide_eq_true (by first | (with_reducible assumption) | assumption)); replace q5 := eq_true q5; have p9 : 0 ≤ (1 : Int) := (by omega); have q9 : 1 < a0.size := (by have : (1 : Int) < (a0.size : Int) := of_decide_eq_true (by first | (with_reducible assumption) | assumption); omega); have hx9 : ∀ h : 1 < a0.size, ((a0[1]'h).toNat : Int) = bt a0 1 := bt_at a0 1; clear p9; have qi9 : (1 < (a0.size : Int)) = True := eq_true (of_decide_eq_true (by first | (with_reducible assumption) | assumption)); replace q9 := eq_true q9) | (go_at_call 61; (with_reducible refine (spec_l1Digit.calls (bt a0 1) t492 _ A10.out).mono ?_); rintro e w' ⟨rfl, ⟨nd, rfl⟩⟩; have p31 : 0 ≤ (3 : Int) := (by omega); have q31 : 3 < a0.size := (by have : (3 : Int) < (a0.size : Int) := of_decide_eq_true (by first | (with_reducible assumption) | assumption); omega); have hx31 : ∀ h : 3 < a0.size, ((a0[3]'h).toNat : Int) = bt a0 3 := bt_at a0 3; clear p31; have qi31 : (3 < (a0.size : Int)) = True := eq_true (of_decide_eq_true (by first | (with_reducible assumption) | assumption)); replace q31 := eq_true q31) | (go_at_call 61; (with_reducible refine (spec_l1Digit.calls (bt a0 3) t496 _ A32.out).mono ?_); rintro e w' ⟨rfl, ⟨nd, rfl⟩⟩; have p36 : 0 ≤ (4 : Int) := (by omega); have q36 : 4 < a0.size := (by have : (4 : Int) < (a0.size : Int) := of_decide_eq_true (by first | (with_reducible assumption) | assumption); omega); have hx36 : ∀ h : 4 < a0.size, ((a0[4]'h).toNat : Int) = bt a0 4 := bt_at a0 4; clear p36; have qi36 : (4 < (a0.size : Int)) = True := eq_true (of_decide_eq_true (by first | (with_reducible assumption) | assumption)); replace q36 := eq_true q36) | (go_at_call 61; (with_reducible refine (spec_l1Digit.calls (bt a0 4) t497 _ A37.out).mono ?_); rintro e w' ⟨rfl, ⟨nd, rfl⟩⟩))
                          go_ret
                          exact ⟨by first | rfl | (simp; done) | (simp [*]; done), by repeat (first | exact Drawn0.refl _ | apply Drawn0.step)⟩
                        · rw [if_neg c35] at H
                          exact absurd H (by simp)
                  · rw [if_neg c30] at H
                    exact absurd H (by simp)
                · rw [if_neg c29] at H
                  have c29b0 : decide (3 < (a0.size : Int)) = false := decide_eq_false c29
                  have c29b1 : decide (3 < a0.size) = false := decide_eq_false (by omega)
                  clear c29
                  by_cases c38 : (a0.size : Int) < 5
                  · rw [if_pos c38] at H
                    have c38b0 : decide ((a0.size : Int) < 5) = true := decide_eq_true c38
                    have c38b1 : decide (a0.size < 5) = true := decide_eq_true (by omega)
                    clear c38
                    obtain rfl := Option.some.inj H
                    go_enter Tryd.func83, Tryd.ntmps83
                    go_wp2_with (first | ((with_reducible refine gate_callee (f := 51) rfl ?_); refine goesL_ (some 7) rfl rfl Tryd.func51 (by kernel_rfl) rfl #[.int .i64 (a0.size : Int), .int .i64 1, .int .i64 5] rfl (by (try simp only [List.map_toArray, List.map_cons, List.map_nil]); first | done | rfl | (simp only [List.length_drop, List.length_take]; rfl)) ?_; (with_reducible refine (spec_l6In.calls (a0.size : Int) 1 5 true _ A2.out).mono ?_); rintro e w' ⟨rfl, ⟨nd, rfl⟩⟩; refine ⟨_, rfl, ?_⟩; have p5 : 0 ≤ (0 : Int) := (by omega); have q5 : 0 < a0.size := (by have : (0 : Int) < (a0.size : Int) := of_decide_eq_true (by first | (with_reducible assumption) | assumption); omega); have hx5 : ∀ h : 0 < a0.size, ((a0[0]'h).toNat : Int) = bt a0 0 := bt_at a0 0; clear p5; have qi5 : (0 < (a0.size : Int)) = True := eq_true (of_decide_eq_true (by first | (with_reducible assumption) | assumption)); replace q5 := eq_true q5; have p9 : 0 ≤ (1 : Int) := (by omega); have q9 : 1 < a0.size := (by have : (1 : Int) < (a0.size : Int) := of_decide_eq_true (by first | (with_reducible assumption) | assumption); omega); have hx9 : ∀ h : 1 < a0.size, ((a0[1]'h).toNat : Int) = bt a0 1 := bt_at a0 1; clear p9; have qi9 : (1 < (a0.size : Int)) = True := eq_true (of_decide_eq_true (by first | (with_reducible assumption) | assumption)); replace q9 := eq_true q9) | (go_at_call 61; (with_reducible refine (spec_l1Digit.calls (bt a0 1) t492 _ A10.out).mono ?_); rintro e w' ⟨rfl, ⟨nd, rfl⟩⟩))
                    go_ret
                    exact ⟨by first | rfl | (simp; done) | (simp [*]; done), by repeat (first | exact Drawn0.refl _ | apply Drawn0.step)⟩
                  · rw [if_neg c38] at H
                    have c38b0 : decide ((a0.size : Int) < 5) = false := decide_eq_false c38
                    have c38b1 : decide (a0.size < 5) = false := decide_eq_false (by omega)
                    clear c38
                    by_cases c39 : 4 < (a0.size : Int)
                    · rw [if_pos c39] at H
                      have c39b0 : decide (4 < (a0.size : Int)) = true := decide_eq_true c39
                      have c39b1 : decide (4 < a0.size) = true := decide_eq_true (by omega)
                      clear c39
                      replace H := Option.bind_eq_some_iff.mp H
                      obtain ⟨t498, A410, H⟩ := H
                      replace H : (some (decide (t498 ≥ 0))) = some r := H
                      have A41 := Aside0.mk A410
                      clear A410
                      obtain rfl := Option.some.inj H
                      go_enter Tryd.func83, Tryd.ntmps83
                      go_wp2_with (first | ((with_reducible refine gate_callee (f := 51) rfl ?_); refine goesL_ (some 7) rfl rfl Tryd.func51 (by kernel_rfl) rfl #[.int .i64 (a0.size : Int), .int .i64 1, .int .i64 5] rfl (by (try simp only [List.map_toArray, List.map_cons, List.map_nil]); first | done | rfl | (simp only [List.length_drop, List.length_take]; rfl)) ?_; (with_reducible refine (spec_l6In.calls (a0.size : Int) 1 5 true _ A2.out).mono ?_); rintro e w' ⟨rfl, ⟨nd, rfl⟩⟩; refine ⟨_, rfl, ?_⟩; have p5 : 0 ≤ (0 : Int) := (by omega); have q5 : 0 < a0.size := (by have : (0 : Int) < (a0.size : Int) := of_decide_eq_true (by first | (with_reducible assumption) | assumption); omega); have hx5 : ∀ h : 0 < a0.size, ((a0[0]'h).toNat : Int) = bt a0 0 := bt_at a0 0; clear p5; have qi5 : (0 < (a0.size : Int)) = True := eq_true (of_decide_eq_true (by first | (with_reducible assumption) | assumption)); replace q5 := eq_true q5; have p9 : 0 ≤ (1 : Int) := (by omega); have q9 : 1 < a0.size := (by have : (1 : Int) < (a0.size : Int) := of_decide_eq_true (by first | (with_reducible assumption) | assumption); omega); have hx9 : ∀ h : 1 < a0.size, ((a0[1]'h).toNat : Int) = bt a0 1 := bt_at a0 1; clear p9; have qi9 : (1 < (a0.size : Int)) = True := eq_true (of_decide_eq_true (by first | (with_reducible assumption) | assumption)); replace q9 := eq_true q9) | (go_at_call 61; (with_reducible refine (spec_l1Digit.calls (bt a0 1) t492 _ A10.out).mono ?_); rintro e w' ⟨rfl, ⟨nd, rfl⟩⟩; have p40 : 0 ≤ (4 : Int) := (by omega); have q40 : 4 < a0.size := (by have : (4 : Int) < (a0.size : Int) := of_decide_eq_true (by first | (with_reducible assumption) | assumption); omega); have hx40 : ∀ h : 4 < a0.size, ((a0[4]'h).toNat : Int) = bt a0 4 := bt_at a0 4; clear p40; have qi40 : (4 < (a0.size : Int)) = True := eq_true (of_decide_eq_true (by first | (with_reducible assumption) | assumption)); replace q40 := eq_true q40) | (go_at_call 61; (with_reducible refine (spec_l1Digit.calls (bt a0 4) t498 _ A41.out).mono ?_); rintro e w' ⟨rfl, ⟨nd, rfl⟩⟩))
                      go_ret
                      exact ⟨by first | rfl | (simp; done) | (simp [*]; done), by repeat (first | exact Drawn0.refl _ | apply Drawn0.step)⟩
                    · rw [if_neg c39] at H
                      exact absurd H (by simp)
          · rw [if_neg c8] at H
            exact absurd H (by simp)
        · rw [if_neg c7] at H
          have c7b0 : decide (1 < (a0.size : Int)) = false := decide_eq_false c7
          have c7b1 : decide (1 < a0.size) = false := decide_eq_false (by omega)
          clear c7
          by_cases c42 : (a0.size : Int) > 2
          · rw [if_pos c42] at H
            have c42b0 : decide (2 < (a0.size : Int)) = true := decide_eq_true c42
            have c42b1 : decide (2 < a0.size) = true := decide_eq_true (by omega)
            clear c42
            by_cases c43 : 2 < (a0.size : Int)
            · rw [if_pos c43] at H
              have c43b0 : decide (2 < (a0.size : Int)) = true := decide_eq_true c43
              have c43b1 : decide (2 < a0.size) = true := decide_eq_true (by omega)
              clear c43
              by_cases c45 : (bt a0 2) = 58
              · rw [if_pos c45] at H
                have c45b0 : ((bt a0 2) == 58) = true := beq_iff_eq.mpr c45
                have c45b1 : ((bt a0 2) != 58) = false := bne_eq_false_iff_eq.mpr c45
                clear c45
                by_cases c46 : (a0.size : Int) > 3
                · rw [if_pos c46] at H
                  have c46b0 : decide (3 < (a0.size : Int)) = true := decide_eq_true c46
                  have c46b1 : decide (3 < a0.size) = true := decide_eq_true (by omega)
                  clear c46
                  by_cases c47 : 3 < (a0.size : Int)
                  · rw [if_pos c47] at H
                    have c47b0 : decide (3 < (a0.size : Int)) = true := decide_eq_true c47
                    have c47b1 : decide (3 < a0.size) = true := decide_eq_true (by omega)
                    clear c47
                    replace H := Option.bind_eq_some_iff.mp H
                    obtain ⟨t499, A490, H⟩ := H
                    replace H : (if t499 < 1 then (some false) else (if (a0.size : Int) < 5 then (some true) else (if 4 < (a0.size : Int) then ((spec_l1Digit.f (bt a0 4)).bind fun t500 => (some (decide (t500 ≥ 0)))) else (none)))) = some r := H
                    have A49 := Aside0.mk A490
                    clear A490
                    by_cases c50 : t499 < 1
                    · rw [if_pos c50] at H
                      have c50b0 : decide (t499 < 1) = true := decide_eq_true c50
                      clear c50
                      obtain rfl := Option.some.inj H
                      go_enter Tryd.func83, Tryd.ntmps83
                      go_wp2_with (first | ((with_reducible refine gate_callee (f := 51) rfl ?_); refine goesL_ (some 7) rfl rfl Tryd.func51 (by kernel_rfl) rfl #[.int .i64 (a0.size : Int), .int .i64 1, .int .i64 5] rfl (by (try simp only [List.map_toArray, List.map_cons, List.map_nil]); first | done | rfl | (simp only [List.length_drop, List.length_take]; rfl)) ?_; (with_reducible refine (spec_l6In.calls (a0.size : Int) 1 5 true _ A2.out).mono ?_); rintro e w' ⟨rfl, ⟨nd, rfl⟩⟩; refine ⟨_, rfl, ?_⟩; have p5 : 0 ≤ (0 : Int) := (by omega); have q5 : 0 < a0.size := (by have : (0 : Int) < (a0.size : Int) := of_decide_eq_true (by first | (with_reducible assumption) | assumption); omega); have hx5 : ∀ h : 0 < a0.size, ((a0[0]'h).toNat : Int) = bt a0 0 := bt_at a0 0; clear p5; have qi5 : (0 < (a0.size : Int)) = True := eq_true (of_decide_eq_true (by first | (with_reducible assumption) | assumption)); replace q5 := eq_true q5; have p44 : 0 ≤ (2 : Int) := (by omega); have q44 : 2 < a0.size := (by have : (2 : Int) < (a0.size : Int) := of_decide_eq_true (by first | (with_reducible assumption) | assumption); omega); have hx44 : ∀ h : 2 < a0.size, ((a0[2]'h).toNat : Int) = bt a0 2 := bt_at a0 2; clear p44; have qi44 : (2 < (a0.size : Int)) = True := eq_true (of_decide_eq_true (by first | (with_reducible assumption) | assumption)); replace q44 := eq_true q44; have p48 : 0 ≤ (3 : Int) := (by omega); have q48 : 3 < a0.size := (by have : (3 : Int) < (a0.size : Int) := of_decide_eq_true (by first | (with_reducible assumption) | assumption); omega); have hx48 : ∀ h : 3 < a0.size, ((a0[3]'h).toNat : Int) = bt a0 3 := bt_at a0 3; clear p48; have qi48 : (3 < (a0.size : Int)) = True := eq_true (of_decide_eq_true (by first | (with_reducible assumption) | assumption)); replace q48 := eq_true q48) | (go_at_call 61; (with_reducible refine (spec_l1Digit.calls (bt a0 3) t499 _ A49.out).mono ?_); rintro e w' ⟨rfl, ⟨nd, rfl⟩⟩))
                      go_ret
                      exact ⟨by first | rfl | (simp; done) | (simp [*]; done), by repeat (first | exact Drawn0.refl _ | apply Drawn0.step)⟩
                    · rw [if_neg c50] at H
                      have c50b0 : decide (t499 < 1) = false := decide_eq_false c50
                      clear c50
                      by_cases c51 : (a0.size : Int) < 5
                      · rw [if_pos c51] at H
                        have c51b0 : decide ((a0.size : Int) < 5) = true := decide_eq_true c51
                        have c51b1 : decide (a0.size < 5) = true := decide_eq_true (by omega)
                        clear c51
                        obtain rfl := Option.some.inj H
                        go_enter Tryd.func83, Tryd.ntmps83
                        go_wp2_with (first | ((with_reducible refine gate_callee (f := 51) rfl ?_); refine goesL_ (some 7) rfl rfl Tryd.func51 (by kernel_rfl) rfl #[.int .i64 (a0.size : Int), .int .i64 1, .int .i64 5] rfl (by (try simp only [List.map_toArray, List.map_cons, List.map_nil]); first | done | rfl | (simp only [List.length_drop, List.length_take]; rfl)) ?_; (with_reducible refine (spec_l6In.calls (a0.size : Int) 1 5 true _ A2.out).mono ?_); rintro e w' ⟨rfl, ⟨nd, rfl⟩⟩; refine ⟨_, rfl, ?_⟩; have p5 : 0 ≤ (0 : Int) := (by omega); have q5 : 0 < a0.size := (by have : (0 : Int) < (a0.size : Int) := of_decide_eq_true (by first | (with_reducible assumption) | assumption); omega); have hx5 : ∀ h : 0 < a0.size, ((a0[0]'h).toNat : Int) = bt a0 0 := bt_at a0 0; clear p5; have qi5 : (0 < (a0.size : Int)) = True := eq_true (of_decide_eq_true (by first | (with_reducible assumption) | assumption)); replace q5 := eq_true q5; have p44 : 0 ≤ (2 : Int) := (by omega); have q44 : 2 < a0.size := (by have : (2 : Int) < (a0.size : Int) := of_decide_eq_true (by first | (with_reducible assumption) | assumption); omega); have hx44 : ∀ h : 2 < a0.size, ((a0[2]'h).toNat : Int) = bt a0 2 := bt_at a0 2; clear p44; have qi44 : (2 < (a0.size : Int)) = True := eq_true (of_decide_eq_true (by first | (with_reducible assumption) | assumption)); replace q44 := eq_true q44; have p48 : 0 ≤ (3 : Int) := (by omega); have q48 : 3 < a0.size := (by have : (3 : Int) < (a0.size : Int) := of_decide_eq_true (by first | (with_reducible assumption) | assumption); omega); have hx48 : ∀ h : 3 < a0.size, ((a0[3]'h).toNat : Int) = bt a0 3 := bt_at a0 3; clear p48; have qi48 : (3 < (a0.size : Int)) = True := eq_true (of_decide_eq_true (by first | (with_reducible assumption) | assumption)); replace q48 := eq_true q48) | (go_at_call 61; (with_reducible refine (spec_l1Digit.calls (bt a0 3) t499 _ A49.out).mono ?_); rintro e w' ⟨rfl, ⟨nd, rfl⟩⟩))
                        go_ret
                        exact ⟨by first | rfl | (simp; done) | (simp [*]; done), by repeat (first | exact Drawn0.refl _ | apply Drawn0.step)⟩
                      · rw [if_neg c51] at H
                        have c51b0 : decide ((a0.size : Int) < 5) = false := decide_eq_false c51
                        have c51b1 : decide (a0.size < 5) = false := decide_eq_false (by omega)
                        clear c51
                        by_cases c52 : 4 < (a0.size : Int)
                        · rw [if_pos c52] at H
                          have c52b0 : decide (4 < (a0.size : Int)) = true := decide_eq_true c52
                          have c52b1 : decide (4 < a0.size) = true := decide_eq_true (by omega)
                          clear c52
                          replace H := Option.bind_eq_some_iff.mp H
                          obtain ⟨t500, A540, H⟩ := H
                          replace H : (some (decide (t500 ≥ 0))) = some r := H
                          have A54 := Aside0.mk A540
                          clear A540
                          obtain rfl := Option.some.inj H
                          go_enter Tryd.func83, Tryd.ntmps83
                          go_wp2_with (first | ((with_reducible refine gate_callee (f := 51) rfl ?_); refine goesL_ (some 7) rfl rfl Tryd.func51 (by kernel_rfl) rfl #[.int .i64 (a0.size : Int), .int .i64 1, .int .i64 5] rfl (by (try simp only [List.map_toArray, List.map_cons, List.map_nil]); first | done | rfl | (simp only [List.length_drop, List.length_take]; rfl)) ?_; (with_reducible refine (spec_l6In.calls (a0.size : Int) 1 5 true _ A2.out).mono ?_); rintro e w' ⟨rfl, ⟨nd, rfl⟩⟩; refine ⟨_, rfl, ?_⟩; have p5 : 0 ≤ (0 : Int) := (by omega); have q5 : 0 < a0.size := (by have : (0 : Int) < (a0.size : Int) := of_decide_eq_true (by first | (with_reducible assumption) | assumption); omega); have hx5 : ∀ h : 0 < a0.size, ((a0[0]'h).toNat : Int) = bt a0 0 := bt_at a0 0; clear p5; have qi5 : (0 < (a0.size : Int)) = True := eq_true (of_decide_eq_true (by first | (with_reducible assumption) | assumption)); replace q5 := eq_true q5; have p44 : 0 ≤ (2 : Int) := (by omega); have q44 : 2 < a0.size := (by have : (2 : Int) < (a0.size : Int) := of_decide_eq_true (by first | (with_reducible assumption) | assumption); omega); have hx44 : ∀ h : 2 < a0.size, ((a0[2]'h).toNat : Int) = bt a0 2 := bt_at a0 2; clear p44; have qi44 : (2 < (a0.size : Int)) = True := eq_true (of_decide_eq_true (by first | (with_reducible assumption) | assumption)); replace q44 := eq_true q44; have p48 : 0 ≤ (3 : Int) := (by omega); have q48 : 3 < a0.size := (by have : (3 : Int) < (a0.size : Int) := of_decide_eq_true (by first | (with_reducible assumption) | assumption); omega); have hx48 : ∀ h : 3 < a0.size, ((a0[3]'h).toNat : Int) = bt a0 3 := bt_at a0 3; clear p48; have qi48 : (3 < (a0.size : Int)) = True := eq_true (of_decide_eq_true (by first | (with_reducible assumption) | assumption)); replace q48 := eq_true q48) | (go_at_call 61; (with_reducible refine (spec_l1Digit.calls (bt a0 3) t499 _ A49.out).mono ?_); rintro e w' ⟨rfl, ⟨nd, rfl⟩⟩; have p53 : 0 ≤ (4 : Int) := (by omega); have q53 : 4 < a0.size := (by have : (4 : Int) < (a0.size : Int) := of_decide_eq_true (by first | (with_reducible assumption) | assumption); omega); have hx53 : ∀ h : 4 < a0.size, ((a0[4]'h).toNat : Int) = bt a0 4 := bt_at a0 4; clear p53; have qi53 : (4 < (a0.size : Int)) = True := eq_true (of_decide_eq_true (by first | (with_reducible assumption) | assumption)); replace q53 := eq_true q53) | (go_at_call 61; (with_reducible refine (spec_l1Digit.calls (bt a0 4) t500 _ A54.out).mono ?_); rintro e w' ⟨rfl, ⟨nd, rfl⟩⟩))
                          go_ret
                          exact ⟨by first | rfl | (simp; done) | (simp [*]; done), by repeat (first | exact Drawn0.refl _ | apply Drawn0.step)⟩
                        · rw [if_neg c52] at H
                          exact absurd H (by simp)
                  · rw [if_neg c47] at H
                    exact absurd H (by simp)
                · rw [if_neg c46] at H
                  have c46b0 : decide (3 < (a0.size : Int)) = false := decide_eq_false c46
                  have c46b1 : decide (3 < a0.size) = false := decide_eq_false (by omega)
                  clear c46
                  by_cases c55 : (a0.size : Int) < 5
                  · rw [if_pos c55] at H
                    have c55b0 : decide ((a0.size : Int) < 5) = true := decide_eq_true c55
                    have c55b1 : decide (a0.size < 5) = true := decide_eq_true (by omega)
                    clear c55
                    obtain rfl := Option.some.inj H
                    go_enter Tryd.func83, Tryd.ntmps83
                    go_wp2_with (first | ((with_reducible refine gate_callee (f := 51) rfl ?_); refine goesL_ (some 7) rfl rfl Tryd.func51 (by kernel_rfl) rfl #[.int .i64 (a0.size : Int), .int .i64 1, .int .i64 5] rfl (by (try simp only [List.map_toArray, List.map_cons, List.map_nil]); first | done | rfl | (simp only [List.length_drop, List.length_take]; rfl)) ?_; (with_reducible refine (spec_l6In.calls (a0.size : Int) 1 5 true _ A2.out).mono ?_); rintro e w' ⟨rfl, ⟨nd, rfl⟩⟩; refine ⟨_, rfl, ?_⟩; have p5 : 0 ≤ (0 : Int) := (by omega); have q5 : 0 < a0.size := (by have : (0 : Int) < (a0.size : Int) := of_decide_eq_true (by first | (with_reducible assumption) | assumption); omega); have hx5 : ∀ h : 0 < a0.size, ((a0[0]'h).toNat : Int) = bt a0 0 := bt_at a0 0; clear p5; have qi5 : (0 < (a0.size : Int)) = True := eq_true (of_decide_eq_true (by first | (with_reducible assumption) | assumption)); replace q5 := eq_true q5; have p44 : 0 ≤ (2 : Int) := (by omega); have q44 : 2 < a0.size := (by have : (2 : Int) < (a0.size : Int) := of_decide_eq_true (by first | (with_reducible assumption) | assumption); omega); have hx44 : ∀ h : 2 < a0.size, ((a0[2]'h).toNat : Int) = bt a0 2 := bt_at a0 2; clear p44; have qi44 : (2 < (a0.size : Int)) = True := eq_true (of_decide_eq_true (by first | (with_reducible assumption) | assumption)); replace q44 := eq_true q44))
                    go_ret
                    exact ⟨by first | rfl | (simp; done) | (simp [*]; done), by repeat (first | exact Drawn0.refl _ | apply Drawn0.step)⟩
                  · rw [if_neg c55] at H
                    have c55b0 : decide ((a0.size : Int) < 5) = false := decide_eq_false c55
                    have c55b1 : decide (a0.size < 5) = false := decide_eq_false (by omega)
                    clear c55
                    by_cases c56 : 4 < (a0.size : Int)
                    · rw [if_pos c56] at H
                      have c56b0 : decide (4 < (a0.size : Int)) = true := decide_eq_true c56
                      have c56b1 : decide (4 < a0.size) = true := decide_eq_true (by omega)
                      clear c56
                      replace H := Option.bind_eq_some_iff.mp H
                      obtain ⟨t501, A580, H⟩ := H
                      replace H : (some (decide (t501 ≥ 0))) = some r := H
                      have A58 := Aside0.mk A580
                      clear A580
                      obtain rfl := Option.some.inj H
                      go_enter Tryd.func83, Tryd.ntmps83
                      go_wp2_with (first | ((with_reducible refine gate_callee (f := 51) rfl ?_); refine goesL_ (some 7) rfl rfl Tryd.func51 (by kernel_rfl) rfl #[.int .i64 (a0.size : Int), .int .i64 1, .int .i64 5] rfl (by (try simp only [List.map_toArray, List.map_cons, List.map_nil]); first | done | rfl | (simp only [List.length_drop, List.length_take]; rfl)) ?_; (with_reducible refine (spec_l6In.calls (a0.size : Int) 1 5 true _ A2.out).mono ?_); rintro e w' ⟨rfl, ⟨nd, rfl⟩⟩; refine ⟨_, rfl, ?_⟩; have p5 : 0 ≤ (0 : Int) := (by omega); have q5 : 0 < a0.size := (by have : (0 : Int) < (a0.size : Int) := of_decide_eq_true (by first | (with_reducible assumption) | assumption); omega); have hx5 : ∀ h : 0 < a0.size, ((a0[0]'h).toNat : Int) = bt a0 0 := bt_at a0 0; clear p5; have qi5 : (0 < (a0.size : Int)) = True := eq_true (of_decide_eq_true (by first | (with_reducible assumption) | assumption)); replace q5 := eq_true q5; have p44 : 0 ≤ (2 : Int) := (by omega); have q44 : 2 < a0.size := (by have : (2 : Int) < (a0.size : Int) := of_decide_eq_true (by first | (with_reducible assumption) | assumption); omega); have hx44 : ∀ h : 2 < a0.size, ((a0[2]'h).toNat : Int) = bt a0 2 := bt_at a0 2; clear p44; have qi44 : (2 < (a0.size : Int)) = True := eq_true (of_decide_eq_true (by first | (with_reducible assumption) | assumption)); replace q44 := eq_true q44; have p57 : 0 ≤ (4 : Int) := (by omega); have q57 : 4 < a0.size := (by have : (4 : Int) < (a0.size : Int) := of_decide_eq_true (by first | (with_reducible assumption) | assumption); omega); have hx57 : ∀ h : 4 < a0.size, ((a0[4]'h).toNat : Int) = bt a0 4 := bt_at a0 4; clear p57; have qi57 : (4 < (a0.size : Int)) = True := eq_true (of_decide_eq_true (by first | (with_reducible assumption) | assumption)); replace q57 := eq_true q57) | (go_at_call 61; (with_reducible refine (spec_l1Digit.calls (bt a0 4) t501 _ A58.out).mono ?_); rintro e w' ⟨rfl, ⟨nd, rfl⟩⟩))
                      go_ret
                      exact ⟨by first | rfl | (simp; done) | (simp [*]; done), by repeat (first | exact Drawn0.refl _ | apply Drawn0.step)⟩
                    · rw [if_neg c56] at H
                      exact absurd H (by simp)
              · rw [if_neg c45] at H
                have c45b0 : ((bt a0 2) == 58) = false := beq_eq_false_iff_ne.mpr c45
                have c45b1 : ((bt a0 2) != 58) = true := bne_iff_ne.mpr c45
                obtain rfl := Option.some.inj H
                go_enter Tryd.func83, Tryd.ntmps83
                go_wp2_with (first | ((with_reducible refine gate_callee (f := 51) rfl ?_); refine goesL_ (some 7) rfl rfl Tryd.func51 (by kernel_rfl) rfl #[.int .i64 (a0.size : Int), .int .i64 1, .int .i64 5] rfl (by (try simp only [List.map_toArray, List.map_cons, List.map_nil]); first | done | rfl | (simp only [List.length_drop, List.length_take]; rfl)) ?_; (with_reducible refine (spec_l6In.calls (a0.size : Int) 1 5 true _ A2.out).mono ?_); rintro e w' ⟨rfl, ⟨nd, rfl⟩⟩; refine ⟨_, rfl, ?_⟩; have p5 : 0 ≤ (0 : Int) := (by omega); have q5 : 0 < a0.size := (by have : (0 : Int) < (a0.size : Int) := of_decide_eq_true (by first | (with_reducible assumption) | assumption); omega); have hx5 : ∀ h : 0 < a0.size, ((a0[0]'h).toNat : Int) = bt a0 0 := bt_at a0 0; clear p5; have qi5 : (0 < (a0.size : Int)) = True := eq_true (of_decide_eq_true (by first | (with_reducible assumption) | assumption)); replace q5 := eq_true q5; have p44 : 0 ≤ (2 : Int) := (by omega); have q44 : 2 < a0.size := (by have : (2 : Int) < (a0.size : Int) := of_decide_eq_true (by first | (with_reducible assumption) | assumption); omega); have hx44 : ∀ h : 2 < a0.size, ((a0[2]'h).toNat : Int) = bt a0 2 := bt_at a0 2; clear p44; have qi44 : (2 < (a0.size : Int)) = True := eq_true (of_decide_eq_true (by first | (with_reducible assumption) | assumption)); replace q44 := eq_true q44))
                go_ret
                exact ⟨by first | rfl | (simp; done) | (simp [*]; done), by repeat (first | exact Drawn0.refl _ | apply Drawn0.step)⟩
            · rw [if_neg c43] at H
              exact absurd H (by simp)
          · rw [if_neg c42] at H
            have c42b0 : decide (2 < (a0.size : Int)) = false := decide_eq_false c42
            have c42b1 : decide (2 < a0.size) = false := decide_eq_false (by omega)
            clear c42
            by_cases c59 : (a0.size : Int) > 3
            · rw [if_pos c59] at H
              have c59b0 : decide (3 < (a0.size : Int)) = true := decide_eq_true c59
              have c59b1 : decide (3 < a0.size) = true := decide_eq_true (by omega)
              clear c59
              by_cases c60 : 3 < (a0.size : Int)
              · rw [if_pos c60] at H
                have c60b0 : decide (3 < (a0.size : Int)) = true := decide_eq_true c60
                have c60b1 : decide (3 < a0.size) = true := decide_eq_true (by omega)
                clear c60
                replace H := Option.bind_eq_some_iff.mp H
                obtain ⟨t502, A620, H⟩ := H
                replace H : (if t502 < 1 then (some false) else (if (a0.size : Int) < 5 then (some true) else (if 4 < (a0.size : Int) then ((spec_l1Digit.f (bt a0 4)).bind fun t503 => (some (decide (t503 ≥ 0)))) else (none)))) = some r := H
                have A62 := Aside0.mk A620
                clear A620
                by_cases c63 : t502 < 1
                · rw [if_pos c63] at H
                  have c63b0 : decide (t502 < 1) = true := decide_eq_true c63
                  clear c63
                  obtain rfl := Option.some.inj H
                  go_enter Tryd.func83, Tryd.ntmps83
                  go_wp2_with (first | ((with_reducible refine gate_callee (f := 51) rfl ?_); refine goesL_ (some 7) rfl rfl Tryd.func51 (by kernel_rfl) rfl #[.int .i64 (a0.size : Int), .int .i64 1, .int .i64 5] rfl (by (try simp only [List.map_toArray, List.map_cons, List.map_nil]); first | done | rfl | (simp only [List.length_drop, List.length_take]; rfl)) ?_; (with_reducible refine (spec_l6In.calls (a0.size : Int) 1 5 true _ A2.out).mono ?_); rintro e w' ⟨rfl, ⟨nd, rfl⟩⟩; refine ⟨_, rfl, ?_⟩; have p5 : 0 ≤ (0 : Int) := (by omega); have q5 : 0 < a0.size := (by have : (0 : Int) < (a0.size : Int) := of_decide_eq_true (by first | (with_reducible assumption) | assumption); omega); have hx5 : ∀ h : 0 < a0.size, ((a0[0]'h).toNat : Int) = bt a0 0 := bt_at a0 0; clear p5; have qi5 : (0 < (a0.size : Int)) = True := eq_true (of_decide_eq_true (by first | (with_reducible assumption) | assumption)); replace q5 := eq_true q5; have p61 : 0 ≤ (3 : Int) := (by omega); have q61 : 3 < a0.size := (by have : (3 : Int) < (a0.size : Int) := of_decide_eq_true (by first | (with_reducible assumption) | assumption); omega); have hx61 : ∀ h : 3 < a0.size, ((a0[3]'h).toNat : Int) = bt a0 3 := bt_at a0 3; clear p61; have qi61 : (3 < (a0.size : Int)) = True := eq_true (of_decide_eq_true (by first | (with_reducible assumption) | assumption)); replace q61 := eq_true q61) | (go_at_call 61; (with_reducible refine (spec_l1Digit.calls (bt a0 3) t502 _ A62.out).mono ?_); rintro e w' ⟨rfl, ⟨nd, rfl⟩⟩))
                  go_ret
                  exact ⟨by first | rfl | (simp; done) | (simp [*]; done), by repeat (first | exact Drawn0.refl _ | apply Drawn0.step)⟩
                · rw [if_neg c63] at H
                  have c63b0 : decide (t502 < 1) = false := decide_eq_false c63
                  clear c63
                  by_cases c64 : (a0.size : Int) < 5
                  · rw [if_pos c64] at H
                    have c64b0 : decide ((a0.size : Int) < 5) = true := decide_eq_true c64
                    have c64b1 : decide (a0.size < 5) = true := decide_eq_true (by omega)
                    clear c64
                    obtain rfl := Option.some.inj H
                    go_enter Tryd.func83, Tryd.ntmps83
                    go_wp2_with (first | ((with_reducible refine gate_callee (f := 51) rfl ?_); refine goesL_ (some 7) rfl rfl Tryd.func51 (by kernel_rfl) rfl #[.int .i64 (a0.size : Int), .int .i64 1, .int .i64 5] rfl (by (try simp only [List.map_toArray, List.map_cons, List.map_nil]); first | done | rfl | (simp only [List.length_drop, List.length_take]; rfl)) ?_; (with_reducible refine (spec_l6In.calls (a0.size : Int) 1 5 true _ A2.out).mono ?_); rintro e w' ⟨rfl, ⟨nd, rfl⟩⟩; refine ⟨_, rfl, ?_⟩; have p5 : 0 ≤ (0 : Int) := (by omega); have q5 : 0 < a0.size := (by have : (0 : Int) < (a0.size : Int) := of_decide_eq_true (by first | (with_reducible assumption) | assumption); omega); have hx5 : ∀ h : 0 < a0.size, ((a0[0]'h).toNat : Int) = bt a0 0 := bt_at a0 0; clear p5; have qi5 : (0 < (a0.size : Int)) = True := eq_true (of_decide_eq_true (by first | (with_reducible assumption) | assumption)); replace q5 := eq_true q5; have p61 : 0 ≤ (3 : Int) := (by omega); have q61 : 3 < a0.size := (by have : (3 : Int) < (a0.size : Int) := of_decide_eq_true (by first | (with_reducible assumption) | assumption); omega); have hx61 : ∀ h : 3 < a0.size, ((a0[3]'h).toNat : Int) = bt a0 3 := bt_at a0 3; clear p61; have qi61 : (3 < (a0.size : Int)) = True := eq_true (of_decide_eq_true (by first | (with_reducible assumption) | assumption)); replace q61 := eq_true q61) | (go_at_call 61; (with_reducible refine (spec_l1Digit.calls (bt a0 3) t502 _ A62.out).mono ?_); rintro e w' ⟨rfl, ⟨nd, rfl⟩⟩))
                    go_ret
                    exact ⟨by first | rfl | (simp; done) | (simp [*]; done), by repeat (first | exact Drawn0.refl _ | apply Drawn0.step)⟩
                  · rw [if_neg c64] at H
                    have c64b0 : decide ((a0.size : Int) < 5) = false := decide_eq_false c64
                    have c64b1 : decide (a0.size < 5) = false := decide_eq_false (by omega)
                    clear c64
                    by_cases c65 : 4 < (a0.size : Int)
                    · rw [if_pos c65] at H
                      have c65b0 : decide (4 < (a0.size : Int)) = true := decide_eq_true c65
                      have c65b1 : decide (4 < a0.size) = true := decide_eq_true (by omega)
                      clear c65
                      replace H := Option.bind_eq_some_iff.mp H
                      obtain ⟨t503, A670, H⟩ := H
                      replace H : (some (decide (t503 ≥ 0))) = some r := H
                      have A67 := Aside0.mk A670
                      clear A670
                      obtain rfl := Option.some.inj H
                      go_enter Tryd.func83, Tryd.ntmps83
                      go_wp2_with (first | ((with_reducible refine gate_callee (f := 51) rfl ?_); refine goesL_ (some 7) rfl rfl Tryd.func51 (by kernel_rfl) rfl #[.int .i64 (a0.size : Int), .int .i64 1, .int .i64 5] rfl (by (try simp only [List.map_toArray, List.map_cons, List.map_nil]); first | done | rfl | (simp only [List.length_drop, List.length_take]; rfl)) ?_; (with_reducible refine (spec_l6In.calls (a0.size : Int) 1 5 true _ A2.out).mono ?_); rintro e w' ⟨rfl, ⟨nd, rfl⟩⟩; refine ⟨_, rfl, ?_⟩; have p5 : 0 ≤ (0 : Int) := (by omega); have q5 : 0 < a0.size := (by have : (0 : Int) < (a0.size : Int) := of_decide_eq_true (by first | (with_reducible assumption) | assumption); omega); have hx5 : ∀ h : 0 < a0.size, ((a0[0]'h).toNat : Int) = bt a0 0 := bt_at a0 0; clear p5; have qi5 : (0 < (a0.size : Int)) = True := eq_true (of_decide_eq_true (by first | (with_reducible assumption) | assumption)); replace q5 := eq_true q5; have p61 : 0 ≤ (3 : Int) := (by omega); have q61 : 3 < a0.size := (by have : (3 : Int) < (a0.size : Int) := of_decide_eq_true (by first | (with_reducible assumption) | assumption); omega); have hx61 : ∀ h : 3 < a0.size, ((a0[3]'h).toNat : Int) = bt a0 3 := bt_at a0 3; clear p61; have qi61 : (3 < (a0.size : Int)) = True := eq_true (of_decide_eq_true (by first | (with_reducible assumption) | assumption)); replace q61 := eq_true q61) | (go_at_call 61; (with_reducible refine (spec_l1Digit.calls (bt a0 3) t502 _ A62.out).mono ?_); rintro e w' ⟨rfl, ⟨nd, rfl⟩⟩; have p66 : 0 ≤ (4 : Int) := (by omega); have q66 : 4 < a0.size := (by have : (4 : Int) < (a0.size : Int) := of_decide_eq_true (by first | (with_reducible assumption) | assumption); omega); have hx66 : ∀ h : 4 < a0.size, ((a0[4]'h).toNat : Int) = bt a0 4 := bt_at a0 4; clear p66; have qi66 : (4 < (a0.size : Int)) = True := eq_true (of_decide_eq_true (by first | (with_reducible assumption) | assumption)); replace q66 := eq_true q66) | (go_at_call 61; (with_reducible refine (spec_l1Digit.calls (bt a0 4) t503 _ A67.out).mono ?_); rintro e w' ⟨rfl, ⟨nd, rfl⟩⟩))
                      go_ret
                      exact ⟨by first | rfl | (simp; done) | (simp [*]; done), by repeat (first | exact Drawn0.refl _ | apply Drawn0.step)⟩
                    · rw [if_neg c65] at H
                      exact absurd H (by simp)
              · rw [if_neg c60] at H
                exact absurd H (by simp)
            · rw [if_neg c59] at H
              have c59b0 : decide (3 < (a0.size : Int)) = false := decide_eq_false c59
              have c59b1 : decide (3 < a0.size) = false := decide_eq_false (by omega)
              clear c59
              by_cases c68 : (a0.size : Int) < 5
              · rw [if_pos c68] at H
                have c68b0 : decide ((a0.size : Int) < 5) = true := decide_eq_true c68
                have c68b1 : decide (a0.size < 5) = true := decide_eq_true (by omega)
                clear c68
                obtain rfl := Option.some.inj H
                go_enter Tryd.func83, Tryd.ntmps83
                go_wp2_with (first | ((with_reducible refine gate_callee (f := 51) rfl ?_); refine goesL_ (some 7) rfl rfl Tryd.func51 (by kernel_rfl) rfl #[.int .i64 (a0.size : Int), .int .i64 1, .int .i64 5] rfl (by (try simp only [List.map_toArray, List.map_cons, List.map_nil]); first | done | rfl | (simp only [List.length_drop, List.length_take]; rfl)) ?_; (with_reducible refine (spec_l6In.calls (a0.size : Int) 1 5 true _ A2.out).mono ?_); rintro e w' ⟨rfl, ⟨nd, rfl⟩⟩; refine ⟨_, rfl, ?_⟩; have p5 : 0 ≤ (0 : Int) := (by omega); have q5 : 0 < a0.size := (by have : (0 : Int) < (a0.size : Int) := of_decide_eq_true (by first | (with_reducible assumption) | assumption); omega); have hx5 : ∀ h : 0 < a0.size, ((a0[0]'h).toNat : Int) = bt a0 0 := bt_at a0 0; clear p5; have qi5 : (0 < (a0.size : Int)) = True := eq_true (of_decide_eq_true (by first | (with_reducible assumption) | assumption)); replace q5 := eq_true q5))
                go_ret
                exact ⟨by first | rfl | (simp; done) | (simp [*]; done), by repeat (first | exact Drawn0.refl _ | apply Drawn0.step)⟩
              · rw [if_neg c68] at H
                have c68b0 : decide ((a0.size : Int) < 5) = false := decide_eq_false c68
                have c68b1 : decide (a0.size < 5) = false := decide_eq_false (by omega)
                clear c68
                by_cases c69 : 4 < (a0.size : Int)
                · rw [if_pos c69] at H
                  have c69b0 : decide (4 < (a0.size : Int)) = true := decide_eq_true c69
                  have c69b1 : decide (4 < a0.size) = true := decide_eq_true (by omega)
                  clear c69
                  replace H := Option.bind_eq_some_iff.mp H
                  obtain ⟨t504, A710, H⟩ := H
                  replace H : (some (decide (t504 ≥ 0))) = some r := H
                  have A71 := Aside0.mk A710
                  clear A710
                  obtain rfl := Option.some.inj H
                  go_enter Tryd.func83, Tryd.ntmps83
                  go_wp2_with (first | ((with_reducible refine gate_callee (f := 51) rfl ?_); refine goesL_ (some 7) rfl rfl Tryd.func51 (by kernel_rfl) rfl #[.int .i64 (a0.size : Int), .int .i64 1, .int .i64 5] rfl (by (try simp only [List.map_toArray, List.map_cons, List.map_nil]); first | done | rfl | (simp only [List.length_drop, List.length_take]; rfl)) ?_; (with_reducible refine (spec_l6In.calls (a0.size : Int) 1 5 true _ A2.out).mono ?_); rintro e w' ⟨rfl, ⟨nd, rfl⟩⟩; refine ⟨_, rfl, ?_⟩; have p5 : 0 ≤ (0 : Int) := (by omega); have q5 : 0 < a0.size := (by have : (0 : Int) < (a0.size : Int) := of_decide_eq_true (by first | (with_reducible assumption) | assumption); omega); have hx5 : ∀ h : 0 < a0.size, ((a0[0]'h).toNat : Int) = bt a0 0 := bt_at a0 0; clear p5; have qi5 : (0 < (a0.size : Int)) = True := eq_true (of_decide_eq_true (by first | (with_reducible assumption) | assumption)); replace q5 := eq_true q5; have p70 : 0 ≤ (4 : Int) := (by omega); have q70 : 4 < a0.size := (by have : (4 : Int) < (a0.size : Int) := of_decide_eq_true (by first | (with_reducible assumption) | assumption); omega); have hx70 : ∀ h : 4 < a0.size, ((a0[4]'h).toNat : Int) = bt a0 4 := bt_at a0 4; clear p70; have qi70 : (4 < (a0.size : Int)) = True := eq_true (of_decide_eq_true (by first | (with_reducible assumption) | assumption)); replace q70 := eq_true q70) | (go_at_call 61; (with_reducible refine (spec_l1Digit.calls (bt a0 4) t504 _ A71.out).mono ?_); rintro e w' ⟨rfl, ⟨nd, rfl⟩⟩))
                  go_ret
                  exact ⟨by first | rfl | (simp; done) | (simp [*]; done), by repeat (first | exact Drawn0.refl _ | apply Drawn0.step)⟩
                · rw [if_neg c69] at H
                  exact absurd H (by simp)
      · rw [if_neg c6] at H
        have c6b0 : ((bt a0 0) == 64) = false := beq_eq_false_iff_ne.mpr c6
        have c6b1 : ((bt a0 0) != 64) = true := bne_iff_ne.mpr c6
        obtain rfl := Option.some.inj H
        go_enter Tryd.func83, Tryd.ntmps83
        go_wp2_with (first | ((with_reducible refine gate_callee (f := 51) rfl ?_); refine goesL_ (some 7) rfl rfl Tryd.func51 (by kernel_rfl) rfl #[.int .i64 (a0.size : Int), .int .i64 1, .int .i64 5] rfl (by (try simp only [List.map_toArray, List.map_cons, List.map_nil]); first | done | rfl | (simp only [List.length_drop, List.length_take]; rfl)) ?_; (with_reducible refine (spec_l6In.calls (a0.size : Int) 1 5 true _ A2.out).mono ?_); rintro e w' ⟨rfl, ⟨nd, rfl⟩⟩; refine ⟨_, rfl, ?_⟩; have p5 : 0 ≤ (0 : Int) := (by omega); have q5 : 0 < a0.size := (by have : (0 : Int) < (a0.size : Int) := of_decide_eq_true (by first | (with_reducible assumption) | assumption); omega); have hx5 : ∀ h : 0 < a0.size, ((a0[0]'h).toNat : Int) = bt a0 0 := bt_at a0 0; clear p5; have qi5 : (0 < (a0.size : Int)) = True := eq_true (of_decide_eq_true (by first | (with_reducible assumption) | assumption)); replace q5 := eq_true q5))
        go_ret
        exact ⟨by first | rfl | (simp; done) | (simp [*]; done), by repeat (first | exact Drawn0.refl _ | apply Drawn0.step)⟩
    · rw [if_neg c4] at H
      exact absurd H (by simp)
  · replace c3 := Bool.eq_false_iff.mpr c3
    subst c3
    have H1 : (some false) = some r := by rw [if_neg (show ¬ (false = true) by decide)] at H; exact H
    clear H
    have H := H1
    clear H1
    obtain rfl := Option.some.inj H
    go_enter Tryd.func83, Tryd.ntmps83
    go_wp2_with (first | ((with_reducible refine gate_callee (f := 51) rfl ?_); refine goesL_ (some 7) rfl rfl Tryd.func51 (by kernel_rfl) rfl #[.int .i64 (a0.size : Int), .int .i64 1, .int .i64 5] rfl (by (try simp only [List.map_toArray, List.map_cons, List.map_nil]); first | done | rfl | (simp only [List.length_drop, List.length_take]; rfl)) ?_; (with_reducible refine (spec_l6In.calls (a0.size : Int) 1 5 false _ A2.out).mono ?_); rintro e w' ⟨rfl, ⟨nd, rfl⟩⟩; refine ⟨_, rfl, ?_⟩))
    go_ret
    exact ⟨by first | rfl | (simp; done) | (simp [*]; done), by repeat (first | exact Drawn0.refl _ | apply Drawn0.step)⟩

end Go.Proofs.YtdphdheodloofaaDoor.A
