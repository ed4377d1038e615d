-- Printed by myprint.py (wip/tools) out of the translation. Not trusted: Lean checks it.
import Derived.Test.YtkbpomalikbphaaAx0
import Derived.Test.YtkbpomalikbphaaAx3
namespace Go.Proofs.Ytkbpomalikbphaa.A
open Go.RowKit Go.Proofs.YtkbpomalikbphaaW.PrintWords Go.Proofs.YtkbpomalikbphaaW.PrintLast Go.Proofs.YtkbpomalikbphaaW.PrintMore
attribute [local go_sem] max2_int min2_int max_two min_two max_three min_three max_four min_four   -- for this text's walks alone
set_option linter.unusedVariables false
set_option linter.unusedSimpArgs false

/-! ### impl_beginning: function 20 -/
/-- May this byte stand at this place of a name's beginning. -/
def begb (i : Nat) (c : Int) : Bool := if i = 0 then c == 64 else if i = 1 ∨ i = 3 then decide (49 ≤ c ∧ c ≤ 57) else if i = 2 then c == 58 else if i = 4 then decide (48 ≤ c ∧ c ≤ 57) else false
def impl_beginning.f (a0 : ByteArray) : Option (Bool) := if a0.size ≤ 140737488355328 then some ((List.range a0.size).all fun i => begb i (bt a0 i)) else none
theorem beg_cell (s : ByteArray) (k : Nat) (h : k < s.size) : ((s.data.toList.getD k 0).toNat : Int) = bt s k := by
  have h' : k < s.data.toList.length := by rw [data_length]; exact h
  simp [bt, h, List.getD_eq_getElem?_getD, List.getElem?_eq_getElem h']
  rfl
set_option maxHeartbeats 4000000 in
set_option maxRecDepth 100000 in
theorem impl_beginning.calls (a0 : ByteArray) (r : Bool) (w : World) (h : impl_beginning.f a0 = some r) :
    Calls Try.prog 20 #[.string a0] w fun e w' => e = .returned (.bool r) ∧ Below w.heap.size w w' := by
  unfold impl_beginning.f at h
  by_cases hs : a0.size ≤ 140737488355328
  · rw [if_pos hs] at h
    have HR := Aside0.mk (Option.some.inj h)
    clear h
    have kb := fun W => print_bytes (P := Try.prog) 9 22 5 Try.underlying9 Try.underlying22 Try.underlying5 a0 W
    go_enter Try.func20, Try.ntmps20
    go_wp2
    go_loopw [9] (fun i wr => ∃ k : Nat, k ≤ a0.size ∧ i = .int .i64 k ∧ Aside0 (∀ j : Nat, j < k → begb j (bt a0 j) = true) ∧ Aside0 (Drawn0 (Lib.bytesWorld w 5 a0) wr)) (fun i _ => a0.size - (intOf i).toNat)
    case atStart => exact ⟨0, Nat.zero_le _, rfl, ⟨fun j hj => absurd hj (Nat.not_lt_zero _)⟩, ⟨Drawn0.refl _⟩⟩
    case round =>
      obtain ⟨k, hk, rfl, hall, hd⟩ := hrel
      have hb := bt_range a0 k
      by_cases hlt : k < a0.size
      · have hcell : wr.cell? ⟨w.heap.size, k, none⟩ = some (.int .u8 (bt a0 k)) := by
          obtain ⟨⟨m, rfl⟩⟩ := hd.out
          show (Lib.bytesWorld w 5 a0).cell? _ = _
          rw [Lib.bytesWorld_cell w 5 a0 k hlt, beg_cell a0 k hlt]
        have hnext := fun (h1 : begb k (bt a0 k) = true) => Aside0.mk (show ∀ j : Nat, j < k + 1 → begb j (bt a0 j) = true from fun j hj => by
          by_cases e : j = k
          · subst e; exact h1
          · exact hall.out j (by omega))
        have hbad := fun (h1 : begb k (bt a0 k) = false) => Aside0.mk (show ((List.range a0.size).all fun i => begb i (bt a0 i)) = false from by
          rw [List.all_eq_false]
          exact ⟨k, List.mem_range.2 hlt, by rw [h1]; decide⟩)
        generalize bt a0 k = c at hb hcell hnext hbad
        clear hall
        by_cases k0 : k = 0
        · have hbb : begb k c = (c == 64) := by subst k0; rfl
          have e0 : ((k : Int) == 0) = true := beq_iff_eq.2 (by omega)
          have e1 : ((k : Int) == 1) = false := beq_eq_false_iff_ne.2 (by omega)
          have e3 : ((k : Int) == 3) = false := beq_eq_false_iff_ne.2 (by omega)
          have e2 : ((k : Int) == 2) = false := beq_eq_false_iff_ne.2 (by omega)
          have e4 : ((k : Int) == 4) = false := beq_eq_false_iff_ne.2 (by omega)
          clear k0
          by_cases d : c = 64
          · have hn := hnext (by rw [hbb]; exact beq_iff_eq.2 d)
            clear hnext hbad hbb
            have d1 : (c == 64) = true := beq_iff_eq.2 d
            clear d
            go_wp2
            go_roundw
            case rel => exact ⟨k + 1, by omega, by go_num, hn, ⟨hd.out⟩⟩
            case measure => simp [intOf]; omega
          · obtain rfl : r = false := by rw [← HR.out]; exact (hbad (by rw [hbb]; exact beq_eq_false_iff_ne.2 d)).out
            clear hnext hbad hbb
            have d1 : (c == 64) = false := beq_eq_false_iff_ne.2 d
            clear d
            go_wp2
            go_ret
            exact ⟨rfl, (bytes_below (Below.refl w.heap.size w) (Nat.le_refl _) 5 a0).trans ((hd.out).below.mono (by rw [Lib.bytesWorld_size]; omega))⟩
        · skip
          by_cases k1 : k = 1
          · have hbb : begb k c = decide (49 ≤ c ∧ c ≤ 57) := by subst k1; rfl
            have e0 : ((k : Int) == 0) = false := beq_eq_false_iff_ne.2 (by omega)
            have e1 : ((k : Int) == 1) = true := beq_iff_eq.2 (by omega)
            have e3 : ((k : Int) == 3) = false := beq_eq_false_iff_ne.2 (by omega)
            have e2 : ((k : Int) == 2) = false := beq_eq_false_iff_ne.2 (by omega)
            have e4 : ((k : Int) == 4) = false := beq_eq_false_iff_ne.2 (by omega)
            clear k0 k1
            by_cases d : 49 ≤ c ∧ c ≤ 57
            · have hn := hnext (by rw [hbb]; exact decide_eq_true d)
              clear hnext hbad hbb
              have HF := Aside0.mk (show impl_figure.f c 49 = some true by unfold impl_figure.f; rw [if_pos d.1, decide_eq_true d.2])
              clear d
              go_wp2_with (go_at_call 19; refine (impl_figure.calls c 49 true _ HF.out).mono ?_; rintro e w' ⟨rfl, ⟨nd, rfl⟩⟩)
              go_roundw
              case rel => exact ⟨k + 1, by omega, by go_num, hn, ⟨hd.out.step nd⟩⟩
              case measure => simp [intOf]; omega
            · obtain rfl : r = false := by rw [← HR.out]; exact (hbad (by rw [hbb]; exact decide_eq_false d)).out
              clear hnext hbad hbb
              have HF := Aside0.mk (show impl_figure.f c 49 = some false by
                unfold impl_figure.f
                by_cases e : c ≥ 49
                · rw [if_pos e, decide_eq_false (by omega)]
                · rw [if_neg e])
              clear d
              go_wp2_with (go_at_call 19; refine (impl_figure.calls c 49 false _ HF.out).mono ?_; rintro e w' ⟨rfl, ⟨nd, rfl⟩⟩)
              go_ret
              exact ⟨rfl, (bytes_below (Below.refl w.heap.size w) (Nat.le_refl _) 5 a0).trans ((hd.out.step nd).below.mono (by rw [Lib.bytesWorld_size]; omega))⟩
          · skip
            by_cases k2 : k = 2
            · have hbb : begb k c = (c == 58) := by subst k2; rfl
              have e0 : ((k : Int) == 0) = false := beq_eq_false_iff_ne.2 (by omega)
              have e1 : ((k : Int) == 1) = false := beq_eq_false_iff_ne.2 (by omega)
              have e3 : ((k : Int) == 3) = false := beq_eq_false_iff_ne.2 (by omega)
              have e2 : ((k : Int) == 2) = true := beq_iff_eq.2 (by omega)
              have e4 : ((k : Int) == 4) = false := beq_eq_false_iff_ne.2 (by omega)
              clear k0 k1 k2
              by_cases d : c = 58
              · have hn := hnext (by rw [hbb]; exact beq_iff_eq.2 d)
                clear hnext hbad hbb
                have d1 : (c == 58) = true := beq_iff_eq.2 d
                clear d
                go_wp2
                go_roundw
                case rel => exact ⟨k + 1, by omega, by go_num, hn, ⟨hd.out⟩⟩
                case measure => simp [intOf]; omega
              · obtain rfl : r = false := by rw [← HR.out]; exact (hbad (by rw [hbb]; exact beq_eq_false_iff_ne.2 d)).out
                clear hnext hbad hbb
                have d1 : (c == 58) = false := beq_eq_false_iff_ne.2 d
                clear d
                go_wp2
                go_ret
                exact ⟨rfl, (bytes_below (Below.refl w.heap.size w) (Nat.le_refl _) 5 a0).trans ((hd.out).below.mono (by rw [Lib.bytesWorld_size]; omega))⟩
            · skip
              by_cases k3 : k = 3
              · have hbb : begb k c = decide (49 ≤ c ∧ c ≤ 57) := by subst k3; rfl
                have e0 : ((k : Int) == 0) = false := beq_eq_false_iff_ne.2 (by omega)
                have e1 : ((k : Int) == 1) = false := beq_eq_false_iff_ne.2 (by omega)
                have e3 : ((k : Int) == 3) = true := beq_iff_eq.2 (by omega)
                have e2 : ((k : Int) == 2) = false := beq_eq_false_iff_ne.2 (by omega)
                have e4 : ((k : Int) == 4) = false := beq_eq_false_iff_ne.2 (by omega)
                clear k0 k1 k2 k3
                by_cases d : 49 ≤ c ∧ c ≤ 57
                · have hn := hnext (by rw [hbb]; exact decide_eq_true d)
                  clear hnext hbad hbb
                  have HF := Aside0.mk (show impl_figure.f c 49 = some true by unfold impl_figure.f; rw [if_pos d.1, decide_eq_true d.2])
                  clear d
                  go_wp2_with (go_at_call 19; refine (impl_figure.calls c 49 true _ HF.out).mono ?_; rintro e w' ⟨rfl, ⟨nd, rfl⟩⟩)
                  go_roundw
                  case rel => exact ⟨k + 1, by omega, by go_num, hn, ⟨hd.out.step nd⟩⟩
                  case measure => simp [intOf]; omega
                · obtain rfl : r = false := by rw [← HR.out]; exact (hbad (by rw [hbb]; exact decide_eq_false d)).out
                  clear hnext hbad hbb
                  have HF := Aside0.mk (show impl_figure.f c 49 = some false by
                    unfold impl_figure.f
                    by_cases e : c ≥ 49
                    · rw [if_pos e, decide_eq_false (by omega)]
                    · rw [if_neg e])
                  clear d
                  go_wp2_with (go_at_call 19; refine (impl_figure.calls c 49 false _ HF.out).mono ?_; rintro e w' ⟨rfl, ⟨nd, rfl⟩⟩)
                  go_ret
                  exact ⟨rfl, (bytes_below (Below.refl w.heap.size w) (Nat.le_refl _) 5 a0).trans ((hd.out.step nd).below.mono (by rw [Lib.bytesWorld_size]; omega))⟩
              · skip
                by_cases k4 : k = 4
                · have hbb : begb k c = decide (48 ≤ c ∧ c ≤ 57) := by subst k4; rfl
                  have e0 : ((k : Int) == 0) = false := beq_eq_false_iff_ne.2 (by omega)
                  have e1 : ((k : Int) == 1) = false := beq_eq_false_iff_ne.2 (by omega)
                  have e3 : ((k : Int) == 3) = false := beq_eq_false_iff_ne.2 (by omega)
                  have e2 : ((k : Int) == 2) = false := beq_eq_false_iff_ne.2 (by omega)
                  have e4 : ((k : Int) == 4) = true := beq_iff_eq.2 (by omega)
                  clear k0 k1 k2 k3 k4
                  by_cases d : 48 ≤ c ∧ c ≤ 57
                  · have hn := hnext (by rw [hbb]; exact decide_eq_true d)
                    clear hnext hbad hbb
                    have HF := Aside0.mk (show impl_figure.f c 48 = some true by unfold impl_figure.f; rw [if_pos d.1, decide_eq_true d.2])
                    clear d
                    go_wp2_with (go_at_call 19; refine (impl_figure.calls c 48 true _ HF.out).mono ?_; rintro e w' ⟨rfl, ⟨nd, rfl⟩⟩)
                    go_roundw
                    case rel => exact ⟨k + 1, by omega, by go_num, hn, ⟨hd.out.step nd⟩⟩
                    case measure => simp [intOf]; omega
                  · obtain rfl : r = false := by rw [← HR.out]; exact (hbad (by rw [hbb]; exact decide_eq_false d)).out
                    clear hnext hbad hbb
                    have HF := Aside0.mk (show impl_figure.f c 48 = some false by
                      unfold impl_figure.f
                      by_cases e : c ≥ 48
                      · rw [if_pos e, decide_eq_false (by omega)]
                      · rw [if_neg e])
                    clear d
                    go_wp2_with (go_at_call 19; refine (impl_figure.calls c 48 false _ HF.out).mono ?_; rintro e w' ⟨rfl, ⟨nd, rfl⟩⟩)
                    go_ret
                    exact ⟨rfl, (bytes_below (Below.refl w.heap.size w) (Nat.le_refl _) 5 a0).trans ((hd.out.step nd).below.mono (by rw [Lib.bytesWorld_size]; omega))⟩
                · skip
                  have hbb : begb k c = false := by unfold begb; rw [if_neg k0, if_neg (by omega), if_neg k2, if_neg k4]
                  have e0 : ((k : Int) == 0) = false := beq_eq_false_iff_ne.2 (by omega)
                  have e1 : ((k : Int) == 1) = false := beq_eq_false_iff_ne.2 (by omega)
                  have e3 : ((k : Int) == 3) = false := beq_eq_false_iff_ne.2 (by omega)
                  have e2 : ((k : Int) == 2) = false := beq_eq_false_iff_ne.2 (by omega)
                  have e4 : ((k : Int) == 4) = false := beq_eq_false_iff_ne.2 (by omega)
                  clear k0 k1 k2 k3 k4
                  obtain rfl : r = false := by rw [← HR.out]; exact (hbad hbb).out
                  clear hnext hbad hbb
                  go_wp2
                  go_ret
                  exact ⟨rfl, (bytes_below (Below.refl w.heap.size w) (Nat.le_refl _) 5 a0).trans ((hd.out).below.mono (by rw [Lib.bytesWorld_size]; omega))⟩
      · have hk2 : k = a0.size := by omega
        have hfin : Aside0 (r = true) := ⟨by
          rw [← HR.out, List.all_eq_true]
          intro x hx
          exact hall.out x (by have := List.mem_range.1 hx; omega)⟩
        clear hall hk2
        obtain rfl := hfin.out
        clear hfin
        go_wp2
        go_ret
        exact ⟨rfl, (bytes_below (Below.refl w.heap.size w) (Nat.le_refl _) 5 a0).trans (hd.out.below.mono (by rw [Lib.bytesWorld_size]; omega))⟩
  · rw [if_neg hs] at h; cases h

/-! ### impl_held: function 13 -/
def impl_held.l0 : Nat → ByteArray → Int → Option (Int)
  | 0, _, _ => none
  | k + 1, x0, x3 => if x3 > 0 then (if 0 ≤ (wrap64 ((x0.size : Int) - x3)) then (if (wrap64 ((x0.size : Int) - x3)) ≤ (x0.size : Int) then ((impl_beginning.f (x0.extract ((wrap64 ((x0.size : Int) - x3)) : Int).toNat x0.size)).bind fun t176 => (if t176 = true then (some x3) else (impl_held.l0 k x0 (wrap64 (x3 - 1))))) else (none)) else (none)) else (some 0)
def impl_held.f (k : Nat) (a0 : ByteArray) : Option (Int) := impl_held.l0 k a0 (mn 5 (a0.size : Int))
theorem impl_held.mono_l : ∀ k, (∀ y0 y1, LeO (impl_held.l0 k y0 y1) (impl_held.l0 (k + 1) y0 y1))
  | 0 => fun _ _ r h => by simp [impl_held.l0] at h
  | k + 1 => by
    have ih0 := impl_held.mono_l k
    · intro y0 y1
      unfold impl_held.l0
      repeat' first
      | (with_reducible exact ih0 _ _)
      | (with_reducible exact LeO.refl _)
      | (with_reducible exact LeO.none _)
      | (with_reducible refine LeO.ite ?_ ?_)
      | (with_reducible refine LeO.bind ?_ (fun _ => ?_))
      | exact ih0 _ _
      | exact LeO.none _
      | refine LeO.ite ?_ ?_
      | refine LeO.bind ?_ (fun _ => ?_)
theorem impl_held.mono : ∀ a0 k, LeO (impl_held.f k a0) (impl_held.f (k + 1) a0) := by
  intro a0 k
  have ih0 := impl_held.mono_l k
  unfold impl_held.f
  repeat' first
      | (with_reducible exact ih0 _ _)
      | (with_reducible exact LeO.refl _)
      | (with_reducible exact LeO.none _)
      | (with_reducible refine LeO.ite ?_ ?_)
      | (with_reducible refine LeO.bind ?_ (fun _ => ?_))
      | exact ih0 _ _
      | exact LeO.none _
      | refine LeO.ite ?_ ?_
      | refine LeO.bind ?_ (fun _ => ?_)
set_option maxHeartbeats 8000000 in
set_option maxRecDepth 100000 in
theorem impl_held.calls (k : Nat) (a0 : ByteArray) (r : Int) (w : World) (h : impl_held.f k a0 = some r) :
    Calls Try.prog 13 #[.string a0] w fun e w' => e = .returned (.int .i64 r) ∧ Below w.heap.size w w' := by
  have HB := Aside0.mk (Below.refl w.heap.size w)
  have H : (impl_held.l0 k a0 (mn 5 (a0.size : Int))) = some r := h
  clear h
  obtain ⟨ji2, hji2⟩ : ∃ j_ : Int, (mn 5 (a0.size : Int)) = j_ := ⟨_, rfl⟩
  replace H : (impl_held.l0 k a0 ji2) = some r := by first | (rw [hji2] at H; exact H) | (simp only [hji2] at H ⊢; exact H)
  (try (have hji2h : ji2 ≤ 5 := by (rw [← hji2]; unfold mn; (repeat' split) <;> omega)))
  (try (have hji2g : ji2 ≤ 64 := by omega))
  (try (have hji2l : 0 ≤ ji2 := by (rw [← hji2]; unfold mn; (repeat' split) <;> omega)))
  (try (have hji2m : 0 ≤ ji2 := by omega))
  have hji2_ : (if (a0.size : Int) < 5 then (a0.size : Int) else 5) = ji2 := hji2
  have H' := Aside0.mk H
  clear H
  go_enter Try.func13, Try.ntmps13
  go_wp2
  go_loopg [3] k (fun kq v3 w' => ∃ (x3_1 : Int), v3 = .int .i64 x3_1 ∧ Aside0 (impl_held.l0 kq a0 x3_1 = some r) ∧ Aside0 (kq ≤ k) ∧ Aside0 (Below w.heap.size w w'))
  case atStart => exact ⟨(ji2), (by first | rfl | (simp; done) | (simp only [← hji2] <;> (first | rfl | simp)) | (simp [*]; done)), H', ⟨Nat.le_refl _⟩, ⟨by repeat (first | (with_reducible first | exact HB.out | apply below_alloc | apply pw_below_drewN | apply below_drew1) | exact HB.out)⟩⟩
  case round =>
    clear H'
    try clear c1
    try clear p2
    obtain ⟨x3_1, rfl, HA, HK1, HB⟩ := hrel
    cases gk with
    | zero => exact absurd HA.out (by simp [impl_held.l0])
    | succ k1 =>
      have H := HA.out
      clear HA
      simp only [impl_held.l0] at H
      by_cases c3 : x3_1 > 0
      · rw [if_pos c3] at H
        have c3b0 : decide (0 < x3_1) = true := decide_eq_true c3
        clear c3
        obtain ⟨ji4, hji4⟩ : ∃ j_ : Int, (wrap64 ((a0.size : Int) - x3_1)) = j_ := ⟨_, rfl⟩
        replace H : (if 0 ≤ (ji4) then (if (ji4) ≤ (a0.size : Int) then ((impl_beginning.f (a0.extract ((ji4) : Int).toNat a0.size)).bind fun t176 => (if t176 = true then (some x3_1) else (impl_held.l0 k1 a0 (wrap64 (x3_1 - 1))))) else (none)) else (none)) = some r := by first | (rw [hji4] at H; exact H) | (simp only [hji4] at H ⊢; exact H)
        have hji4w : (IntKind.i64.wrap ((a0.size : Int) - x3_1)) = ji4 := (i64_w _).trans hji4
        by_cases c5 : 0 ≤ (ji4)
        · rw [if_pos c5] at H
          have c5b0 := eq_true c5
          have c5b1 : decide (0 ≤ (ji4)) = true := decide_eq_true c5
          clear c5
          by_cases c6 : (ji4) ≤ (a0.size : Int)
          · rw [if_pos c6] at H
            have c6b0 := eq_true c6
            have c6b1 : decide ((ji4) ≤ (a0.size : Int)) = true := decide_eq_true c6
            clear c6
            replace H := Option.bind_eq_some_iff.mp H
            obtain ⟨t176, A70, H⟩ := H
            replace H : (if t176 = true then (some x3_1) else (impl_held.l0 k1 a0 (wrap64 (x3_1 - 1)))) = some r := H
            have A7 := Aside0.mk A70
            clear A70
            by_cases c8 : t176 = true
            · subst c8
              have H1 : (some x3_1) = some r := by rw [if_pos rfl] at H; exact H
              clear H
              have H := H1
              clear H1
              obtain rfl := Option.some.inj H
              go_wp2_with (first | ((with_reducible refine gate_callee (f := 20) rfl ?_); refine goesL_ (some 17) rfl rfl Try.func20 (by kernel_rfl) rfl #[.string (a0.extract ((ji4) : Int).toNat a0.size)] rfl (by (try simp only [List.map_toArray, List.map_cons, List.map_nil]); first | done | (simp only [hji4]; rfl) | rfl | (simp only [List.length_drop, List.length_take]; rfl)) ?_; (with_reducible refine (impl_beginning.calls (a0.extract ((ji4) : Int).toNat a0.size) true _ A7.out).mono ?_); rintro e w9 ⟨rfl, hb⟩; refine ⟨_, rfl, ?_⟩; have n0_ := Aside0.mk (below_step (by repeat (first | (with_reducible first | exact HB.out | apply below_alloc | apply pw_below_drewN | apply below_drew1) | exact HB.out)) hb); clear HB; have HB := n0_; clear n0_; (try clear hb); (try clear hb2); (try clear hk); (try clear hi)))
              go_ret
              exact ⟨by first | rfl | (simp [errW_none, errW_some] <;> rfl) | (simp only [← hji2, ← hji4]; first | rfl | (simp [errW_none, errW_some] <;> rfl)) | (simp [*, errW_none, errW_some] <;> rfl) | (simp [errW_none, errW_some, pk_empty1, pk_empty2]; done) | (simp [*, errW_none, errW_some, pk_empty1, pk_empty2]; done), by repeat (first | (with_reducible first | exact HB.out | apply below_alloc | apply pw_below_drewN | apply below_drew1) | exact HB.out)⟩
            · replace c8 := Bool.eq_false_iff.mpr c8
              subst c8
              have H1 : (impl_held.l0 k1 a0 (wrap64 (x3_1 - 1))) = some r := by rw [if_neg (show ¬ (false = true) by decide)] at H; exact H
              clear H
              have H := H1
              clear H1
              have H' := Aside0.mk H
              clear H
              go_wp2_with (first | ((with_reducible refine gate_callee (f := 20) rfl ?_); refine goesL_ (some 17) rfl rfl Try.func20 (by kernel_rfl) rfl #[.string (a0.extract ((ji4) : Int).toNat a0.size)] rfl (by (try simp only [List.map_toArray, List.map_cons, List.map_nil]); first | done | (simp only [hji4]; rfl) | rfl | (simp only [List.length_drop, List.length_take]; rfl)) ?_; (with_reducible refine (impl_beginning.calls (a0.extract ((ji4) : Int).toNat a0.size) false _ A7.out).mono ?_); rintro e w10 ⟨rfl, hb⟩; refine ⟨_, rfl, ?_⟩; have n0_ := Aside0.mk (below_step (by repeat (first | (with_reducible first | exact HB.out | apply below_alloc | apply pw_below_drewN | apply below_drew1) | exact HB.out)) hb); clear HB; have HB := n0_; clear n0_; (try clear hb); (try clear hb2); (try clear hk); (try clear hi)))
              go_roundg k1
              case measure => have := HK1.out; omega
              case rel => exact ⟨(wrap64 (x3_1 - 1)), (by first | rfl | (simp; done) | (simp [*]; done)), H', ⟨by have := HK1.out; omega⟩, ⟨by repeat (first | (with_reducible first | exact HB.out | apply below_alloc | apply pw_below_drewN | apply below_drew1) | exact HB.out)⟩⟩
          · rw [if_neg c6] at H
            exact absurd H (by simp)
        · rw [if_neg c5] at H
          exact absurd H (by simp)
      · rw [if_neg c3] at H
        have c3b0 : decide (0 < x3_1) = false := decide_eq_false c3
        clear c3
        obtain rfl := Option.some.inj H
        go_wp2
        go_ret
        exact ⟨by first | rfl | (simp [errW_none, errW_some] <;> rfl) | (simp only [← hji2]; first | rfl | (simp [errW_none, errW_some] <;> rfl)) | (simp [*, errW_none, errW_some] <;> rfl) | (simp [errW_none, errW_some, pk_empty1, pk_empty2]; done) | (simp [*, errW_none, errW_some, pk_empty1, pk_empty2]; done), by repeat (first | (with_reducible first | exact HB.out | apply below_alloc | apply pw_below_drewN | apply below_drew1) | exact HB.out)⟩

/-! ### impl_TextHeld: function 6 -/
def impl_TextHeld.f (k : Nat) (a0 : ByteArray) : Option (Int) := (impl_TextOk.f a0).bind fun t177 => (if t177 = true then ((impl_held.f k a0).bind fun t178 => (some t178)) else (some 0))
theorem impl_TextHeld.mono : ∀ a0 k, LeO (impl_TextHeld.f k a0) (impl_TextHeld.f (k + 1) a0) := by
  intro a0 k
  unfold impl_TextHeld.f
  repeat' first
      | (with_reducible exact impl_held.mono _ _)
      | (with_reducible exact LeO.refl _)
      | (with_reducible exact LeO.none _)
      | (with_reducible refine LeO.ite ?_ ?_)
      | (with_reducible refine LeO.bind ?_ (fun _ => ?_))
      | exact impl_held.mono _ _
      | exact LeO.none _
      | refine LeO.ite ?_ ?_
      | refine LeO.bind ?_ (fun _ => ?_)
set_option maxHeartbeats 8000000 in
set_option maxRecDepth 100000 in
theorem impl_TextHeld.calls (k : Nat) (a0 : ByteArray) (r : Int) (w : World) (h : impl_TextHeld.f k a0 = some r) :
    Calls Try.prog 6 #[.string a0] w fun e w' => e = .returned (.int .i64 r) ∧ Below w.heap.size w w' := by
  have HB := Aside0.mk (Below.refl w.heap.size w)
  have H : ((impl_TextOk.f a0).bind fun t177 => (if t177 = true then ((impl_held.f k a0).bind fun t178 => (some t178)) else (some 0))) = some r := h
  clear h
  replace H := Option.bind_eq_some_iff.mp H
  obtain ⟨t177, A20, H⟩ := H
  replace H : (if t177 = true then ((impl_held.f k a0).bind fun t178 => (some t178)) else (some 0)) = some r := H
  have A2 := Aside0.mk A20
  clear A20
  by_cases c3 : t177 = true
  · subst c3
    have H1 : ((impl_held.f k a0).bind fun t178 => (some t178)) = some r := by rw [if_pos rfl] at H; exact H
    clear H
    have H := H1
    clear H1
    replace H := Option.bind_eq_some_iff.mp H
    obtain ⟨t178, A40, H⟩ := H
    replace H : (some t178) = some r := H
    have A4 := Aside0.mk A40
    clear A40
    obtain rfl := Option.some.inj H
    go_enter Try.func6, Try.ntmps6
    go_wp2_with (first | ((with_reducible refine gate_callee (f := 12) rfl ?_); refine goesL_ (some 4) rfl rfl Try.func12 (by kernel_rfl) rfl #[.string a0] rfl (by (try simp only [List.map_toArray, List.map_cons, List.map_nil]); first | done | rfl | (simp only [List.length_drop, List.length_take]; rfl)) ?_; (with_reducible refine (impl_TextOk.calls a0 true _ A2.out).mono ?_); rintro e w5 ⟨rfl, hb⟩; refine ⟨_, rfl, ?_⟩; have n0_ := Aside0.mk (below_step (by repeat (first | (with_reducible first | exact HB.out | apply below_alloc | apply pw_below_drewN | apply below_drew1) | exact HB.out)) hb); clear HB; have HB := n0_; clear n0_; (try clear hb); (try clear hb2); (try clear hk); (try clear hi)) | ((with_reducible refine gate_callee (f := 13) rfl ?_); refine goesL_ (some 7) rfl rfl Try.func13 (by kernel_rfl) rfl #[.string a0] rfl (by (try simp only [List.map_toArray, List.map_cons, List.map_nil]); first | done | rfl | (simp only [List.length_drop, List.length_take]; rfl)) ?_; (with_reducible refine (impl_held.calls k a0 t178 _ A4.out).mono ?_); rintro e w6 ⟨rfl, hb⟩; refine ⟨_, rfl, ?_⟩; have n0_ := Aside0.mk (below_step (by repeat (first | (with_reducible first | exact HB.out | apply below_alloc | apply pw_below_drewN | apply below_drew1) | exact HB.out)) hb); clear HB; have HB := n0_; clear n0_; (try clear hb); (try clear hb2); (try clear hk); (try clear hi)))
    go_ret
    exact ⟨by first | rfl | (simp [errW_none, errW_some] <;> rfl) | (simp [*, errW_none, errW_some] <;> rfl) | (simp [errW_none, errW_some, pk_empty1, pk_empty2]; done) | (simp [*, errW_none, errW_some, pk_empty1, pk_empty2]; done), by repeat (first | (with_reducible first | exact HB.out | apply below_alloc | apply pw_below_drewN | apply below_drew1) | exact HB.out)⟩
  · replace c3 := Bool.eq_false_iff.mpr c3
    subst c3
    have H1 : (some 0) = some r := by rw [if_neg (show ¬ (false = true) by decide)] at H; exact H
    clear H
    have H := H1
    clear H1
    obtain rfl := Option.some.inj H
    go_enter Try.func6, Try.ntmps6
    go_wp2_with (first | ((with_reducible refine gate_callee (f := 12) rfl ?_); refine goesL_ (some 4) rfl rfl Try.func12 (by kernel_rfl) rfl #[.string a0] rfl (by (try simp only [List.map_toArray, List.map_cons, List.map_nil]); first | done | rfl | (simp only [List.length_drop, List.length_take]; rfl)) ?_; (with_reducible refine (impl_TextOk.calls a0 false _ A2.out).mono ?_); rintro e w7 ⟨rfl, hb⟩; refine ⟨_, rfl, ?_⟩; have n0_ := Aside0.mk (below_step (by repeat (first | (with_reducible first | exact HB.out | apply below_alloc | apply pw_below_drewN | apply below_drew1) | exact HB.out)) hb); clear HB; have HB := n0_; clear n0_; (try clear hb); (try clear hb2); (try clear hk); (try clear hi)))
    go_ret
    exact ⟨by first | rfl | (simp [errW_none, errW_some] <;> rfl) | (simp [*, errW_none, errW_some] <;> rfl) | (simp [errW_none, errW_some, pk_empty1, pk_empty2]; done) | (simp [*, errW_none, errW_some, pk_empty1, pk_empty2]; done), by repeat (first | (with_reducible first | exact HB.out | apply below_alloc | apply pw_below_drewN | apply below_drew1) | exact HB.out)⟩

/-! ### spec_l2Byte: function 15 -/
def spec_l2Byte.f (a0 : Int) : Option (Bool) := if a0 ≥ 97 then (if a0 ≤ 122 then (some true) else (if a0 ≥ 48 then (if a0 ≤ 57 then (some true) else (if a0 = 64 then (some true) else (if a0 = 58 then (some true) else (some (a0 == 59))))) else (if a0 = 64 then (some true) else (if a0 = 58 then (some true) else (some (a0 == 59)))))) else (if a0 ≥ 48 then (if a0 ≤ 57 then (some true) else (if a0 = 64 then (some true) else (if a0 = 58 then (some true) else (some (a0 == 59))))) else (if a0 = 64 then (some true) else (if a0 = 58 then (some true) else (some (a0 == 59)))))
set_option maxHeartbeats 8000000 in
set_option maxRecDepth 100000 in
theorem spec_l2Byte.calls (a0 : Int) (r : Bool) (w : World) (h : spec_l2Byte.f a0 = some r) :
    Calls Try.prog 15 #[.int .u8 a0] w fun e w' => e = .returned (.bool r) ∧ Drawn0 w w' := by
  have H : (if a0 ≥ 97 then (if a0 ≤ 122 then (some true) else (if a0 ≥ 48 then (if a0 ≤ 57 then (some true) else (if a0 = 64 then (some true) else (if a0 = 58 then (some true) else (some (a0 == 59))))) else (if a0 = 64 then (some true) else (if a0 = 58 then (some true) else (some (a0 == 59)))))) else (if a0 ≥ 48 then (if a0 ≤ 57 then (some true) else (if a0 = 64 then (some true) else (if a0 = 58 then (some true) else (some (a0 == 59))))) else (if a0 = 64 then (some true) else (if a0 = 58 then (some true) else (some (a0 == 59)))))) = some r := h
  clear h
  by_cases c2 : a0 ≥ 97
  · rw [if_pos c2] at H
    have c2b0 : decide (97 ≤ a0) = true := decide_eq_true c2
    clear c2
    by_cases c3 : a0 ≤ 122
    · rw [if_pos c3] at H
      have c3b0 : decide (a0 ≤ 122) = true := decide_eq_true c3
      clear c3
      obtain rfl := Option.some.inj H
      go_enter Try.func15, Try.ntmps15
      go_wp2
      go_ret
      exact ⟨by first | rfl | (simp; done) | (simp [*]; done), by repeat (first | exact Drawn0.refl _ | apply Drawn0.step)⟩
    · rw [if_neg c3] at H
      have c3b0 : decide (a0 ≤ 122) = false := decide_eq_false c3
      clear c3
      by_cases c4 : a0 ≥ 48
      · rw [if_pos c4] at H
        have c4b0 : decide (48 ≤ a0) = true := decide_eq_true c4
        clear c4
        by_cases c5 : a0 ≤ 57
        · rw [if_pos c5] at H
          have c5b0 : decide (a0 ≤ 57) = true := decide_eq_true c5
          clear c5
          obtain rfl := Option.some.inj H
          go_enter Try.func15, Try.ntmps15
          go_wp2
          go_ret
          exact ⟨by first | rfl | (simp; done) | (simp [*]; done), by repeat (first | exact Drawn0.refl _ | apply Drawn0.step)⟩
        · rw [if_neg c5] at H
          have c5b0 : decide (a0 ≤ 57) = false := decide_eq_false c5
          clear c5
          by_cases c6 : a0 = 64
          · rw [if_pos c6] at H
            have c6b0 : (a0 == 64) = true := beq_iff_eq.mpr c6
            have c6b1 : (a0 != 64) = false := bne_eq_false_iff_eq.mpr c6
            clear c6
            obtain rfl := Option.some.inj H
            go_enter Try.func15, Try.ntmps15
            go_wp2
            go_ret
            exact ⟨by first | rfl | (simp; done) | (simp [*]; done), by repeat (first | exact Drawn0.refl _ | apply Drawn0.step)⟩
          · rw [if_neg c6] at H
            have c6b0 : (a0 == 64) = false := beq_eq_false_iff_ne.mpr c6
            have c6b1 : (a0 != 64) = true := bne_iff_ne.mpr c6
            by_cases c7 : a0 = 58
            · rw [if_pos c7] at H
              have c7b0 : (a0 == 58) = true := beq_iff_eq.mpr c7
              have c7b1 : (a0 != 58) = false := bne_eq_false_iff_eq.mpr c7
              clear c7
              obtain rfl := Option.some.inj H
              go_enter Try.func15, Try.ntmps15
              go_wp2
              go_ret
              exact ⟨by first | rfl | (simp; done) | (simp [*]; done), by repeat (first | exact Drawn0.refl _ | apply Drawn0.step)⟩
            · rw [if_neg c7] at H
              have c7b0 : (a0 == 58) = false := beq_eq_false_iff_ne.mpr c7
              have c7b1 : (a0 != 58) = true := bne_iff_ne.mpr c7
              obtain rfl := Option.some.inj H
              go_enter Try.func15, Try.ntmps15
              go_wp2
              go_ret
              exact ⟨by first | rfl | (simp; done) | (simp [*]; done), by repeat (first | exact Drawn0.refl _ | apply Drawn0.step)⟩
      · rw [if_neg c4] at H
        have c4b0 : decide (48 ≤ a0) = false := decide_eq_false c4
        clear c4
        by_cases c8 : a0 = 64
        · rw [if_pos c8] at H
          have c8b0 : (a0 == 64) = true := beq_iff_eq.mpr c8
          have c8b1 : (a0 != 64) = false := bne_eq_false_iff_eq.mpr c8
          clear c8
          obtain rfl := Option.some.inj H
          go_enter Try.func15, Try.ntmps15
          go_wp2
          go_ret
          exact ⟨by first | rfl | (simp; done) | (simp [*]; done), by repeat (first | exact Drawn0.refl _ | apply Drawn0.step)⟩
        · rw [if_neg c8] at H
          have c8b0 : (a0 == 64) = false := beq_eq_false_iff_ne.mpr c8
          have c8b1 : (a0 != 64) = true := bne_iff_ne.mpr c8
          by_cases c9 : a0 = 58
          · rw [if_pos c9] at H
            have c9b0 : (a0 == 58) = true := beq_iff_eq.mpr c9
            have c9b1 : (a0 != 58) = false := bne_eq_false_iff_eq.mpr c9
            clear c9
            obtain rfl := Option.some.inj H
            go_enter Try.func15, Try.ntmps15
            go_wp2
            go_ret
            exact ⟨by first | rfl | (simp; done) | (simp [*]; done), by repeat (first | exact Drawn0.refl _ | apply Drawn0.step)⟩
          · rw [if_neg c9] at H
            have c9b0 : (a0 == 58) = false := beq_eq_false_iff_ne.mpr c9
            have c9b1 : (a0 != 58) = true := bne_iff_ne.mpr c9
            obtain rfl := Option.some.inj H
            go_enter Try.func15, Try.ntmps15
            go_wp2
            go_ret
            exact ⟨by first | rfl | (simp; done) | (simp [*]; done), by repeat (first | exact Drawn0.refl _ | apply Drawn0.step)⟩
  · rw [if_neg c2] at H
    have c2b0 : decide (97 ≤ a0) = false := decide_eq_false c2
    clear c2
    by_cases c10 : a0 ≥ 48
    · rw [if_pos c10] at H
      have c10b0 : decide (48 ≤ a0) = true := decide_eq_true c10
      clear c10
      by_cases c11 : a0 ≤ 57
      · rw [if_pos c11] at H
        have c11b0 : decide (a0 ≤ 57) = true := decide_eq_true c11
        clear c11
        obtain rfl := Option.some.inj H
        go_enter Try.func15, Try.ntmps15
        go_wp2
        go_ret
        exact ⟨by first | rfl | (simp; done) | (simp [*]; done), by repeat (first | exact Drawn0.refl _ | apply Drawn0.step)⟩
      · rw [if_neg c11] at H
        have c11b0 : decide (a0 ≤ 57) = false := decide_eq_false c11
        clear c11
        by_cases c12 : a0 = 64
        · rw [if_pos c12] at H
          have c12b0 : (a0 == 64) = true := beq_iff_eq.mpr c12
          have c12b1 : (a0 != 64) = false := bne_eq_false_iff_eq.mpr c12
          clear c12
          obtain rfl := Option.some.inj H
          go_enter Try.func15, Try.ntmps15
          go_wp2
          go_ret
          exact ⟨by first | rfl | (simp; done) | (simp [*]; done), by repeat (first | exact Drawn0.refl _ | apply Drawn0.step)⟩
        · rw [if_neg c12] at H
          have c12b0 : (a0 == 64) = false := beq_eq_false_iff_ne.mpr c12
          have c12b1 : (a0 != 64) = true := bne_iff_ne.mpr c12
          by_cases c13 : a0 = 58
          · rw [if_pos c13] at H
            have c13b0 : (a0 == 58) = true := beq_iff_eq.mpr c13
            have c13b1 : (a0 != 58) = false := bne_eq_false_iff_eq.mpr c13
            clear c13
            obtain rfl := Option.some.inj H
            go_enter Try.func15, Try.ntmps15
            go_wp2
            go_ret
            exact ⟨by first | rfl | (simp; done) | (simp [*]; done), by repeat (first | exact Drawn0.refl _ | apply Drawn0.step)⟩
          · rw [if_neg c13] at H
            have c13b0 : (a0 == 58) = false := beq_eq_false_iff_ne.mpr c13
            have c13b1 : (a0 != 58) = true := bne_iff_ne.mpr c13
            obtain rfl := Option.some.inj H
            go_enter Try.func15, Try.ntmps15
            go_wp2
            go_ret
            exact ⟨by first | rfl | (simp; done) | (simp [*]; done), by repeat (first | exact Drawn0.refl _ | apply Drawn0.step)⟩
    · rw [if_neg c10] at H
      have c10b0 : decide (48 ≤ a0) = false := decide_eq_false c10
      clear c10
      by_cases c14 : a0 = 64
      · rw [if_pos c14] at H
        have c14b0 : (a0 == 64) = true := beq_iff_eq.mpr c14
        have c14b1 : (a0 != 64) = false := bne_eq_false_iff_eq.mpr c14
        clear c14
        obtain rfl := Option.some.inj H
        go_enter Try.func15, Try.ntmps15
        go_wp2
        go_ret
        exact ⟨by first | rfl | (simp; done) | (simp [*]; done), by repeat (first | exact Drawn0.refl _ | apply Drawn0.step)⟩
      · rw [if_neg c14] at H
        have c14b0 : (a0 == 64) = false := beq_eq_false_iff_ne.mpr c14
        have c14b1 : (a0 != 64) = true := bne_iff_ne.mpr c14
        by_cases c15 : a0 = 58
        · rw [if_pos c15] at H
          have c15b0 : (a0 == 58) = true := beq_iff_eq.mpr c15
          have c15b1 : (a0 != 58) = false := bne_eq_false_iff_eq.mpr c15
          clear c15
          obtain rfl := Option.some.inj H
          go_enter Try.func15, Try.ntmps15
          go_wp2
          go_ret
          exact ⟨by first | rfl | (simp; done) | (simp [*]; done), by repeat (first | exact Drawn0.refl _ | apply Drawn0.step)⟩
        · rw [if_neg c15] at H
          have c15b0 : (a0 == 58) = false := beq_eq_false_iff_ne.mpr c15
          have c15b1 : (a0 != 58) = true := bne_iff_ne.mpr c15
          obtain rfl := Option.some.inj H
          go_enter Try.func15, Try.ntmps15
          go_wp2
          go_ret
          exact ⟨by first | rfl | (simp; done) | (simp [*]; done), by repeat (first | exact Drawn0.refl _ | apply Drawn0.step)⟩

/-! ### spec_TextOk: function 8 -/
def spec_TextOk.l0 : Nat → ByteArray → Int → Option (Bool)
  | 0, _, _ => none
  | k + 1, x0, x3 => if x3 < (x0.size : Int) then (if 0 ≤ x3 then ((spec_l2Byte.f (bt x0 x3)).bind fun t179 => (if t179 = true then (spec_TextOk.l0 k x0 (wrap64 (x3 + 1))) else (some false))) else (none)) else (some (decide ((x0.size : Int) ≤ 40)))
def spec_TextOk.f (k : Nat) (a0 : ByteArray) : Option (Bool) := spec_TextOk.l0 k a0 0
theorem spec_TextOk.mono_l : ∀ k, (∀ y0 y1, LeO (spec_TextOk.l0 k y0 y1) (spec_TextOk.l0 (k + 1) y0 y1))
  | 0 => fun _ _ r h => by simp [spec_TextOk.l0] at h
  | k + 1 => by
    have ih0 := spec_TextOk.mono_l k
    · intro y0 y1
      unfold spec_TextOk.l0
      repeat' first
      | (with_reducible exact ih0 _ _)
      | (with_reducible exact LeO.refl _)
      | (with_reducible exact LeO.none _)
      | (with_reducible refine LeO.ite ?_ ?_)
      | (with_reducible refine LeO.bind ?_ (fun _ => ?_))
      | exact ih0 _ _
      | exact LeO.none _
      | refine LeO.ite ?_ ?_
      | refine LeO.bind ?_ (fun _ => ?_)
theorem spec_TextOk.mono : ∀ a0 k, LeO (spec_TextOk.f k a0) (spec_TextOk.f (k + 1) a0) := by
  intro a0 k
  have ih0 := spec_TextOk.mono_l k
  unfold spec_TextOk.f
  repeat' first
      | (with_reducible exact ih0 _ _)
      | (with_reducible exact LeO.refl _)
      | (with_reducible exact LeO.none _)
      | (with_reducible refine LeO.ite ?_ ?_)
      | (with_reducible refine LeO.bind ?_ (fun _ => ?_))
      | exact ih0 _ _
      | exact LeO.none _
      | refine LeO.ite ?_ ?_
      | refine LeO.bind ?_ (fun _ => ?_)
set_option maxHeartbeats 8000000 in
set_option maxRecDepth 100000 in
theorem spec_TextOk.calls (k : Nat) (a0 : ByteArray) (r : Bool) (w : World) (h : spec_TextOk.f k a0 = some r) :
    Calls Try.prog 8 #[.string a0] w fun e w' => e = .returned (.bool r) ∧ Drawn0 w w' := by
  have H : (spec_TextOk.l0 k a0 0) = some r := h
  clear h
  have H' := Aside0.mk H
  clear H
  go_enter Try.func8, Try.ntmps8
  go_wp2
  go_loopg [3] k (fun kq v3 w' => ∃ (x3_1 : Int), v3 = .int .i64 x3_1 ∧ Aside0 (spec_TextOk.l0 kq a0 x3_1 = some r) ∧ Aside0 (kq ≤ k) ∧ Drawn0 w w')
  case atStart => exact ⟨(0), (by first | rfl | (simp; done) | (simp [*]; done)), H', ⟨Nat.le_refl _⟩, by repeat (first | exact Drawn0.refl _ | apply Drawn0.step)⟩
  case round =>
    clear H'
    obtain ⟨x3_1, rfl, HA, HK1, ⟨m1, rfl⟩⟩ := hrel
    cases gk with
    | zero => exact absurd HA.out (by simp [spec_TextOk.l0])
    | succ k1 =>
      have H := HA.out
      clear HA
      simp only [spec_TextOk.l0] at H
      by_cases c2 : x3_1 < (a0.size : Int)
      · rw [if_pos c2] at H
        have c2b0 : decide (x3_1 < (a0.size : Int)) = true := decide_eq_true c2
        clear c2
        by_cases c3 : 0 ≤ x3_1
        · rw [if_pos c3] at H
          have c3b0 : decide (0 ≤ x3_1) = true := decide_eq_true c3
          clear c3
          replace H := Option.bind_eq_some_iff.mp H
          obtain ⟨t179, A50, H⟩ := H
          replace H : (if t179 = true then (spec_TextOk.l0 k1 a0 (wrap64 (x3_1 + 1))) else (some false)) = some r := H
          have A5 := Aside0.mk A50
          clear A50
          by_cases c6 : t179 = true
          · subst c6
            have H1 : (spec_TextOk.l0 k1 a0 (wrap64 (x3_1 + 1))) = some r := by rw [if_pos rfl] at H; exact H
            clear H
            have H := H1
            clear H1
            have H' := Aside0.mk H
            clear H
            have p4 : 0 ≤ (x3_1 : Int) := of_decide_eq_true (by first | (with_reducible assumption) | assumption)
            have q4 : x3_1 < (a0.size : Int) := of_decide_eq_true (by first | (with_reducible assumption) | assumption)
            have hx4 := bt_at a0 x3_1
            replace p4 := eq_true p4
            replace q4 := eq_true q4
            go_wp2_with (first | ((with_reducible refine gate_callee (f := 15) rfl ?_); refine goesL_ (some 13) rfl rfl Try.func15 (by kernel_rfl) rfl #[.int .u8 (bt a0 x3_1)] rfl (by (try simp only [List.map_toArray, List.map_cons, List.map_nil]); first | done | rfl | (simp only [List.length_drop, List.length_take]; rfl)) ?_; (with_reducible refine (spec_l2Byte.calls (bt a0 x3_1) true _ A5.out).mono ?_); rintro e w' ⟨rfl, ⟨nd, rfl⟩⟩; refine ⟨_, rfl, ?_⟩))
            go_roundg k1
            case measure => have := HK1.out; omega
            case rel => exact ⟨(wrap64 (x3_1 + 1)), (by first | rfl | (simp; done) | (simp [*]; done)), H', ⟨by have := HK1.out; omega⟩, by repeat (first | exact Drawn0.refl _ | apply Drawn0.step)⟩
          · replace c6 := Bool.eq_false_iff.mpr c6
            subst c6
            have H1 : (some false) = some r := by rw [if_neg (show ¬ (false = true) by decide)] at H; exact H
            clear H
            have H := H1
            clear H1
            obtain rfl := Option.some.inj H
            have p4 : 0 ≤ (x3_1 : Int) := of_decide_eq_true (by first | (with_reducible assumption) | assumption)
            have q4 : x3_1 < (a0.size : Int) := of_decide_eq_true (by first | (with_reducible assumption) | assumption)
            have hx4 := bt_at a0 x3_1
            replace p4 := eq_true p4
            replace q4 := eq_true q4
            go_wp2_with (first | ((with_reducible refine gate_callee (f := 15) rfl ?_); refine goesL_ (some 13) rfl rfl Try.func15 (by kernel_rfl) rfl #[.int .u8 (bt a0 x3_1)] rfl (by (try simp only [List.map_toArray, List.map_cons, List.map_nil]); first | done | rfl | (simp only [List.length_drop, List.length_take]; rfl)) ?_; (with_reducible refine (spec_l2Byte.calls (bt a0 x3_1) false _ A5.out).mono ?_); rintro e w' ⟨rfl, ⟨nd, rfl⟩⟩; refine ⟨_, rfl, ?_⟩))
            go_ret
            exact ⟨by first | rfl | (simp; done) | (simp [*]; done), by repeat (first | exact Drawn0.refl _ | apply Drawn0.step)⟩
        · rw [if_neg c3] at H
          exact absurd H (by simp)
      · rw [if_neg c2] at H
        have c2b0 : decide (x3_1 < (a0.size : Int)) = false := decide_eq_false c2
        clear c2
        obtain rfl := Option.some.inj H
        go_wp2
        go_ret
        exact ⟨by first | rfl | (simp; done) | (simp [*]; done), by repeat (first | exact Drawn0.refl _ | apply Drawn0.step)⟩

/-! ### spec_l1Digit: function 25 -/
def spec_l1Digit.f (a0 : Int) : Option (Int) := if a0 < 48 then (some (-1)) else (if a0 > 57 then (some (-1)) else (some ((a0 - 48) % 256)))
set_option maxHeartbeats 8000000 in
set_option maxRecDepth 100000 in
theorem spec_l1Digit.calls (a0 : Int) (r : Int) (w : World) (h : spec_l1Digit.f a0 = some r) :
    Calls Try.prog 25 #[.int .u8 a0] w fun e w' => e = .returned (.int .i64 r) ∧ Drawn0 w w' := by
  have H : (if a0 < 48 then (some (-1)) else (if a0 > 57 then (some (-1)) else (some ((a0 - 48) % 256)))) = some r := h
  clear h
  by_cases c2 : a0 < 48
  · rw [if_pos c2] at H
    have c2b0 : decide (a0 < 48) = true := decide_eq_true c2
    clear c2
    obtain rfl := Option.some.inj H
    go_enter Try.func25, Try.ntmps25
    go_wp2
    go_ret
    exact ⟨by first | rfl | (simp; done) | (simp [*]; done), by repeat (first | exact Drawn0.refl _ | apply Drawn0.step)⟩
  · rw [if_neg c2] at H
    have c2b0 : decide (a0 < 48) = false := decide_eq_false c2
    clear c2
    by_cases c3 : a0 > 57
    · rw [if_pos c3] at H
      have c3b0 : decide (57 < a0) = true := decide_eq_true c3
      clear c3
      obtain rfl := Option.some.inj H
      go_enter Try.func25, Try.ntmps25
      go_wp2
      go_ret
      exact ⟨by first | rfl | (simp; done) | (simp [*]; done), by repeat (first | exact Drawn0.refl _ | apply Drawn0.step)⟩
    · rw [if_neg c3] at H
      have c3b0 : decide (57 < a0) = false := decide_eq_false c3
      clear c3
      obtain rfl := Option.some.inj H
      go_enter Try.func25, Try.ntmps25
      go_wp2
      go_ret
      exact ⟨by first | rfl | (simp; done) | (simp [*]; done), by repeat (first | exact Drawn0.refl _ | apply Drawn0.step)⟩

end Go.Proofs.Ytkbpomalikbphaa.A
