-- Printed by myprint.py (wip/tools) out of the translation. Not trusted: Lean checks it.
import Derived.Test.YtdphdheodloofaaDoorAx0
import Derived.Test.YtdphdheodloofaaDoorAx3
import Derived.Test.YtdphdheodloofaaDoorAx10
namespace Go.Proofs.YtdphdheodloofaaDoor.A
open Go.RowKit Go.Proofs.YtdphdheodloofaaDoorW.PrintWords Go.Proofs.YtdphdheodloofaaDoorW.PrintLast Go.Proofs.YtdphdheodloofaaDoorW.PrintMore
attribute [local go_sem] max2_int min2_int max_two min_two max_three min_three max_four min_four   -- for this text's walks alone
set_option linter.unusedVariables false
set_option linter.unusedSimpArgs false

/-! ### spec_DrawTextHeld: function 37 -/
def spec_DrawTextHeld.f (k : Nat) (l0 : List Int) : Option (ByteArray) := (spec_l6Open.f l0).bind fun bt478 => ((spec_l71Text.f k bt478.1 bt478.2 24).bind fun bt481 => ((spec_l6Rd_of.f k bt478.1 bt481.2 (([(⟨#[]⟩ : ByteArray), (⟨#[64]⟩ : ByteArray), (⟨#[64, 49]⟩ : ByteArray), (⟨#[64, 50, 58]⟩ : ByteArray), (⟨#[64, 57, 58, 49]⟩ : ByteArray), (⟨#[64, 57, 58, 49, 50]⟩ : ByteArray), (⟨#[64, 49, 58, 53]⟩ : ByteArray), (⟨#[64, 48]⟩ : ByteArray), (⟨#[64, 49, 58, 48]⟩ : ByteArray), (⟨#[64, 49, 58, 49, 50, 51]⟩ : ByteArray), (⟨#[64, 64]⟩ : ByteArray), (⟨#[64, 57, 58, 49, 120]⟩ : ByteArray)] : List ByteArray))).bind fun bt486 => (if bt481.1.size + bt486.1.size ≤ 9223372036854775807 then (some (bt481.1 ++ bt486.1)) else (none))))
theorem spec_DrawTextHeld.mono : ∀ a0 k, LeO (spec_DrawTextHeld.f k a0) (spec_DrawTextHeld.f (k + 1) a0) := by
  intro a0 k
  unfold spec_DrawTextHeld.f
  repeat' first
      | (with_reducible exact spec_l6Rd_of.mono _ _ _ _)
      | (with_reducible exact spec_l71Text.mono _ _ _ _)
      | (with_reducible exact LeO.refl _)
      | (with_reducible exact LeO.none _)
      | (with_reducible refine LeO.ite ?_ ?_)
      | (with_reducible refine LeO.bind ?_ (fun _ => ?_))
      | exact spec_l6Rd_of.mono _ _ _ _
      | exact spec_l71Text.mono _ _ _ _
      | exact LeO.none _
      | refine LeO.ite ?_ ?_
      | refine LeO.bind ?_ (fun _ => ?_)
set_option maxHeartbeats 8000000 in
set_option maxRecDepth 100000 in
theorem spec_DrawTextHeld.calls (k : Nat) (A0 : Option Addr) (c0 : Nat) (l0 : List Int) (r : ByteArray) (w : World) (hr0 : Kd.C (Kd.int .u8) w A0 l0.length l0) (hc0 : l0.length ≤ c0) (h : spec_DrawTextHeld.f k l0 = some r) :
    Calls Tryd.prog 37 #[.slice A0 l0.length c0] w fun e w' => e = .returned (.string r) ∧ Below w.heap.size w w' := by
  have HR0 := Aside0.mk hr0
  have HC0 := Aside0.mk hc0
  clear hr0 hc0
  have HB := Aside0.mk (Below.refl w.heap.size w)
  have H : ((spec_l6Open.f l0).bind fun bt478 => ((spec_l71Text.f k bt478.1 bt478.2 24).bind fun bt481 => ((spec_l6Rd_of.f k bt478.1 bt481.2 (([(⟨#[]⟩ : ByteArray), (⟨#[64]⟩ : ByteArray), (⟨#[64, 49]⟩ : ByteArray), (⟨#[64, 50, 58]⟩ : ByteArray), (⟨#[64, 57, 58, 49]⟩ : ByteArray), (⟨#[64, 57, 58, 49, 50]⟩ : ByteArray), (⟨#[64, 49, 58, 53]⟩ : ByteArray), (⟨#[64, 48]⟩ : ByteArray), (⟨#[64, 49, 58, 48]⟩ : ByteArray), (⟨#[64, 49, 58, 49, 50, 51]⟩ : ByteArray), (⟨#[64, 64]⟩ : ByteArray), (⟨#[64, 57, 58, 49, 120]⟩ : ByteArray)] : List ByteArray))).bind fun bt486 => (if bt481.1.size + bt486.1.size ≤ 9223372036854775807 then (some (bt481.1 ++ bt486.1)) else (none))))) = some r := h
  clear h
  replace H := Option.bind_eq_some_iff.mp H
  obtain ⟨⟨t478, t479⟩, A20, H⟩ := H
  replace H : ((spec_l71Text.f k t478 t479 24).bind fun bt481 => ((spec_l6Rd_of.f k t478 bt481.2 (([(⟨#[]⟩ : ByteArray), (⟨#[64]⟩ : ByteArray), (⟨#[64, 49]⟩ : ByteArray), (⟨#[64, 50, 58]⟩ : ByteArray), (⟨#[64, 57, 58, 49]⟩ : ByteArray), (⟨#[64, 57, 58, 49, 50]⟩ : ByteArray), (⟨#[64, 49, 58, 53]⟩ : ByteArray), (⟨#[64, 48]⟩ : ByteArray), (⟨#[64, 49, 58, 48]⟩ : ByteArray), (⟨#[64, 49, 58, 49, 50, 51]⟩ : ByteArray), (⟨#[64, 64]⟩ : ByteArray), (⟨#[64, 57, 58, 49, 120]⟩ : ByteArray)] : List ByteArray))).bind fun bt486 => (if bt481.1.size + bt486.1.size ≤ 9223372036854775807 then (some (bt481.1 ++ bt486.1)) else (none)))) = some r := H
  have A2 := Aside0.mk A20
  clear A20
  replace H := Option.bind_eq_some_iff.mp H
  obtain ⟨⟨t481, t482⟩, A30, H⟩ := H
  replace H : ((spec_l6Rd_of.f k t478 t482 (([(⟨#[]⟩ : ByteArray), (⟨#[64]⟩ : ByteArray), (⟨#[64, 49]⟩ : ByteArray), (⟨#[64, 50, 58]⟩ : ByteArray), (⟨#[64, 57, 58, 49]⟩ : ByteArray), (⟨#[64, 57, 58, 49, 50]⟩ : ByteArray), (⟨#[64, 49, 58, 53]⟩ : ByteArray), (⟨#[64, 48]⟩ : ByteArray), (⟨#[64, 49, 58, 48]⟩ : ByteArray), (⟨#[64, 49, 58, 49, 50, 51]⟩ : ByteArray), (⟨#[64, 64]⟩ : ByteArray), (⟨#[64, 57, 58, 49, 120]⟩ : ByteArray)] : List ByteArray))).bind fun bt486 => (if t481.size + bt486.1.size ≤ 9223372036854775807 then (some (t481 ++ bt486.1)) else (none))) = some r := H
  have A3 := Aside0.mk A30
  clear A30
  obtain ⟨y483, hy483⟩ : ∃ y_ : List ByteArray, y_ = (([(⟨#[]⟩ : ByteArray), (⟨#[64]⟩ : ByteArray), (⟨#[64, 49]⟩ : ByteArray), (⟨#[64, 50, 58]⟩ : ByteArray), (⟨#[64, 57, 58, 49]⟩ : ByteArray), (⟨#[64, 57, 58, 49, 50]⟩ : ByteArray), (⟨#[64, 49, 58, 53]⟩ : ByteArray), (⟨#[64, 48]⟩ : ByteArray), (⟨#[64, 49, 58, 48]⟩ : ByteArray), (⟨#[64, 49, 58, 49, 50, 51]⟩ : ByteArray), (⟨#[64, 64]⟩ : ByteArray), (⟨#[64, 57, 58, 49, 120]⟩ : ByteArray)] : List ByteArray)) := ⟨_, rfl⟩
  replace H : ((spec_l6Rd_of.f k t478 t482 y483).bind fun bt486 => (if t481.size + bt486.1.size ≤ 9223372036854775807 then (some (t481 ++ bt486.1)) else (none))) = some r := by first | (rw [hy483]; with_reducible exact H) | (have H2_ := (Option.bind_some _ _).symm.trans H; rw [hy483]; with_reducible exact H2_) | (have H2_ := (Option.bind_some _ _).symm.trans H; with_reducible exact H2_) | with_reducible exact H | (rw [hy483]; exact H) | exact H
  have Ny483 := Aside0.mk hy483
  clear hy483
  replace H := Option.bind_eq_some_iff.mp H
  obtain ⟨⟨t486, t487⟩, A40, H⟩ := H
  replace H : (if t481.size + t486.size ≤ 9223372036854775807 then (some (t481 ++ t486)) else (none)) = some r := H
  have A4 := Aside0.mk A40
  clear A40
  by_cases c5 : t481.size + t486.size ≤ 9223372036854775807
  · rw [if_pos c5] at H
    have c5b0 := eq_true c5
    have c5b1 : decide (t481.size + t486.size ≤ 9223372036854775807) = true := decide_eq_true c5
    try have c5b2 : (9223372036854775807 < t481.size + t486.size) = False := eq_false (Nat.not_lt.2 c5)
    obtain rfl := Option.some.inj H
    go_enter Tryd.func37, Tryd.ntmps37
    go_wp2_with (first | ((with_reducible refine gate_callee (f := 49) rfl ?_); refine goesL_ (some 6) rfl rfl Tryd.func49 (by kernel_rfl) rfl #[.slice A0 l0.length c0] rfl (by (try simp only [List.map_toArray, List.map_cons, List.map_nil]); first | done | rfl | (simp only [List.length_drop, List.length_take]; rfl)) ?_; (with_reducible refine (spec_l6Open.calls _ _ l0 t478 t479 w _ ?side1 ?side2 ?side3 A2.out).mono ?_); (case side1 => repeat (first | (with_reducible first | exact HB.out | apply below_alloc | apply pw_below_drewN | apply below_drew1) | exact HB.out)); (case side2 => exact HR0.out); (case side3 => exact HC0.out); rintro e w6 ⟨g480, rfl, hi, hb, hb2⟩; refine ⟨_, rfl, ?_⟩; have n0_ := Aside0.mk (hb); have n1_ := Aside0.mk (hi); clear HB; have HB := n0_; have HI480 := n1_; clear n0_ n1_; (try clear hb); (try clear hb2); (try clear hk); (try clear hi)) | ((with_reducible refine gate_callee (f := 65) rfl ?_); refine goesL_ (some 8) rfl rfl Tryd.func65 (by kernel_rfl) rfl #[.pointer (some ⟨g480, 0, none⟩), .int .i64 24] rfl (by (try simp only [List.map_toArray, List.map_cons, List.map_nil]); first | done | rfl | (simp only [List.length_drop, List.length_take]; rfl)) ?_; (with_reducible refine (spec_l71Text.calls k g480 t478 t479 24 t481 t482 w _ ?side1 ?side2 A3.out).mono ?_); (case side1 => repeat (first | (with_reducible first | exact HI480.out | apply IsS81.alloc | apply IsS81.drewN | apply IsS81.drew | apply IsS81.set_1) | exact HI480.out)); (case side2 => repeat (first | (with_reducible first | exact HB.out | apply below_alloc | apply pw_below_drewN | apply below_drew1 | refine below_set ?_ (IsS81.ge HI480.out)) | exact HB.out)); rintro e w7 ⟨rfl, hi, hb, hk⟩; refine ⟨_, rfl, ?_⟩; have n0_ := Aside0.mk (hb); have n1_ := Aside0.mk (hi); clear HB; clear HI480; have HB := n0_; have HI480 := n1_; clear n0_ n1_; (try clear hb); (try clear hb2); (try clear hk); (try clear hi)) | ((with_reducible refine gate_dst (N := 11) rfl ?_); refine Kd.R_lit Kd.string _ 9 ?hg (N := 11) ?hd (xs := ([(⟨#[]⟩ : ByteArray), (⟨#[64]⟩ : ByteArray), (⟨#[64, 49]⟩ : ByteArray), (⟨#[64, 50, 58]⟩ : ByteArray), (⟨#[64, 57, 58, 49]⟩ : ByteArray), (⟨#[64, 57, 58, 49, 50]⟩ : ByteArray), (⟨#[64, 49, 58, 53]⟩ : ByteArray), (⟨#[64, 48]⟩ : ByteArray), (⟨#[64, 49, 58, 48]⟩ : ByteArray), (⟨#[64, 49, 58, 49, 50, 51]⟩ : ByteArray), (⟨#[64, 64]⟩ : ByteArray), (⟨#[64, 57, 58, 49, 120]⟩ : ByteArray)] : List ByteArray)) (inner := [.string (⟨#[]⟩ : ByteArray), .string (⟨#[64]⟩ : ByteArray), .string (⟨#[64, 49]⟩ : ByteArray), .string (⟨#[64, 50, 58]⟩ : ByteArray), .string (⟨#[64, 57, 58, 49]⟩ : ByteArray), .string (⟨#[64, 57, 58, 49, 50]⟩ : ByteArray), .string (⟨#[64, 49, 58, 53]⟩ : ByteArray), .string (⟨#[64, 48]⟩ : ByteArray), .string (⟨#[64, 49, 58, 48]⟩ : ByteArray), .string (⟨#[64, 49, 58, 49, 50, 51]⟩ : ByteArray), .string (⟨#[64, 64]⟩ : ByteArray), .string (⟨#[64, 57, 58, 49, 120]⟩ : ByteArray)]) (ok := fun _ => True) (okp := fun _ => True) ?hr ?hp (fun _ hk => hk) trivial (Below.refl _ _) (Nat.le_refl _) (by simp) ?_; (case hd => rfl); (case hg => rfl); (case hr => first | (go_simp; done) | (go_simp; rfl)); (case hp => exact (Reps.one (show Kd.M Kd.string _ _ _ (⟨#[]⟩ : ByteArray) [.string (⟨#[]⟩ : ByteArray)] from rfl) (Reps.one (show Kd.M Kd.string _ _ _ (⟨#[64]⟩ : ByteArray) [.string (⟨#[64]⟩ : ByteArray)] from rfl) (Reps.one (show Kd.M Kd.string _ _ _ (⟨#[64, 49]⟩ : ByteArray) [.string (⟨#[64, 49]⟩ : ByteArray)] from rfl) (Reps.one (show Kd.M Kd.string _ _ _ (⟨#[64, 50, 58]⟩ : ByteArray) [.string (⟨#[64, 50, 58]⟩ : ByteArray)] from rfl) (Reps.one (show Kd.M Kd.string _ _ _ (⟨#[64, 57, 58, 49]⟩ : ByteArray) [.string (⟨#[64, 57, 58, 49]⟩ : ByteArray)] from rfl) (Reps.one (show Kd.M Kd.string _ _ _ (⟨#[64, 57, 58, 49, 50]⟩ : ByteArray) [.string (⟨#[64, 57, 58, 49, 50]⟩ : ByteArray)] from rfl) (Reps.one (show Kd.M Kd.string _ _ _ (⟨#[64, 49, 58, 53]⟩ : ByteArray) [.string (⟨#[64, 49, 58, 53]⟩ : ByteArray)] from rfl) (Reps.one (show Kd.M Kd.string _ _ _ (⟨#[64, 48]⟩ : ByteArray) [.string (⟨#[64, 48]⟩ : ByteArray)] from rfl) (Reps.one (show Kd.M Kd.string _ _ _ (⟨#[64, 49, 58, 48]⟩ : ByteArray) [.string (⟨#[64, 49, 58, 48]⟩ : ByteArray)] from rfl) (Reps.one (show Kd.M Kd.string _ _ _ (⟨#[64, 49, 58, 49, 50, 51]⟩ : ByteArray) [.string (⟨#[64, 49, 58, 49, 50, 51]⟩ : ByteArray)] from rfl) (Reps.one (show Kd.M Kd.string _ _ _ (⟨#[64, 64]⟩ : ByteArray) [.string (⟨#[64, 64]⟩ : ByteArray)] from rfl) (Reps.one (show Kd.M Kd.string _ _ _ (⟨#[64, 57, 58, 49, 120]⟩ : ByteArray) [.string (⟨#[64, 57, 58, 49, 120]⟩ : ByteArray)] from rfl) (Reps.none _ _)))))))))))))); intro v484 w8 ho9 hb hg_ hnew_; clear hg_ hnew_; (first | rw [← Ny483.out] at ho9 | (simp only [Int.reduceToNat] at ho9; rw [← Ny483.out] at ho9)); have n0_ := Aside0.mk (Kd.R_lower ho9 (below_size (by repeat (first | (with_reducible first | exact HB.out | apply below_alloc | apply pw_below_drewN | apply below_drew1 | refine below_set ?_ (IsS81.ge HI480.out)) | exact HB.out)))); have n1_ := Aside0.mk (IsS81.below (by repeat (first | (with_reducible first | exact HI480.out | apply IsS81.alloc | apply IsS81.drewN | apply IsS81.drew | apply IsS81.set_1) | exact HI480.out)) hb); have n2_ := Aside0.mk (below_step (by repeat (first | (with_reducible first | exact HB.out | apply below_alloc | apply pw_below_drewN | apply below_drew1 | refine below_set ?_ (IsS81.ge HI480.out)) | exact HB.out)) hb); clear HI480; clear HB; have HO485 := n0_; have HI480 := n1_; have HB := n2_; clear n0_ n1_ n2_; clear hb ho9; obtain ⟨Ao10, co10, eo10⟩ := Kd.R_slice HO485.out; subst eo10) | ((with_reducible refine gate_callee (f := 64) rfl ?_); refine goesL_ (some 12) rfl rfl Tryd.func64 (by kernel_rfl) rfl #[.pointer (some ⟨g480, 0, none⟩), .slice Ao10 y483.length co10] rfl (by (try simp only [List.map_toArray, List.map_cons, List.map_nil]); first | done | rfl | (simp only [List.length_drop, List.length_take]; rfl)) ?_; (with_reducible refine (spec_l6Rd_of.calls k g480 t478 t482 _ _ y483 t486 t487 w _ ?side1 ?side2 ?side3 ?side4 ?side5 A4.out).mono ?_); (case side1 => repeat (first | (with_reducible first | exact HI480.out | apply IsS81.alloc | apply IsS81.drewN | apply IsS81.drew | apply IsS81.set_1) | exact HI480.out)); (case side2 => repeat (first | (with_reducible first | exact HB.out | apply below_alloc | apply pw_below_drewN | apply below_drew1 | refine below_set ?_ (IsS81.ge HI480.out)) | exact HB.out)); (case side3 => repeat (first | exact (Kd.R_reads' HO485.out).2.2 | (with_reducible refine Kd.C_alloc ?_ _) | (with_reducible refine Kd.C_drewN ?_ _) | (with_reducible refine Kd.C_drew ?_))); (case side4 => exact (Kd.R_reads' HO485.out).2.1); (case side5 => exact far_slice (IsS81.own_ne HI480.out HO485.out (by decide))); rintro e w11 ⟨rfl, hi, hb, hk⟩; refine ⟨_, rfl, ?_⟩; have n0_ := Aside0.mk (Kd.R_mono (Kd.R_keep (IsS81.apart (show IsS81 w _ g480 t478 t482 from by repeat (first | (with_reducible first | exact HI480.out | apply IsS81.alloc | apply IsS81.drewN | apply IsS81.drew | apply IsS81.set_1) | exact HI480.out)) (by (with_reducible repeat (first | apply Kd.R_alloc | apply Kd.R_drewN | apply Kd.R_drew)); exact HO485.out) (by decide)) hk (fun _ h => h.2)) (fun _ h => h.1)); have n1_ := Aside0.mk (hb); have n2_ := Aside0.mk (hi); clear HO485; clear HB; clear HI480; have HO485 := n0_; have HB := n1_; have HI480 := n2_; clear n0_ n1_ n2_; (try clear hb); (try clear hb2); (try clear hk); (try clear hi)))
    go_ret
    exact ⟨by first | rfl | (simp [errW_none, errW_some] <;> rfl) | (simp [*, errW_none, errW_some] <;> rfl) | (simp [errW_none, errW_some, pk_empty1, pk_empty2]; done) | (simp [*, errW_none, errW_some, pk_empty1, pk_empty2]; done), by repeat (first | (with_reducible first | exact HB.out | apply below_alloc | apply pw_below_drewN | apply below_drew1 | refine below_set ?_ (IsS81.ge HI480.out)) | exact HB.out)⟩
  · rw [if_neg c5] at H
    exact absurd H (by simp)

/-! ### impl_beginning: function 82 -/
/-- May this byte stand at this place of a name's beginning. -/
def begb (i : Nat) (c : Int) : Bool := if i = 0 then c == 64 else if i = 1 ∨ i = 3 then decide (49 ≤ c ∧ c ≤ 57) else if i = 2 then c == 58 else if i = 4 then decide (48 ≤ c ∧ c ≤ 57) else false
def impl_beginning.f (a0 : ByteArray) : Option (Bool) := if a0.size ≤ 140737488355328 then some ((List.range a0.size).all fun i => begb i (bt a0 i)) else none
theorem beg_cell (s : ByteArray) (k : Nat) (h : k < s.size) : ((s.data.toList.getD k 0).toNat : Int) = bt s k := by
  have h' : k < s.data.toList.length := by rw [data_length]; exact h
  simp [bt, h, List.getD_eq_getElem?_getD, List.getElem?_eq_getElem h']
  rfl
set_option maxHeartbeats 4000000 in
set_option maxRecDepth 100000 in
theorem impl_beginning.calls (a0 : ByteArray) (r : Bool) (w : World) (h : impl_beginning.f a0 = some r) :
    Calls Tryd.prog 82 #[.string a0] w fun e w' => e = .returned (.bool r) ∧ Below w.heap.size w w' := by
  unfold impl_beginning.f at h
  by_cases hs : a0.size ≤ 140737488355328
  · rw [if_pos hs] at h
    have HR := Aside0.mk (Option.some.inj h)
    clear h
    have kb := fun W => print_bytes (P := Tryd.prog) 9 22 5 Tryd.underlying9 Tryd.underlying22 Tryd.underlying5 a0 W
    go_enter Tryd.func82, Tryd.ntmps82
    go_wp2
    go_loopw [9] (fun i wr => ∃ k : Nat, k ≤ a0.size ∧ i = .int .i64 k ∧ Aside0 (∀ j : Nat, j < k → begb j (bt a0 j) = true) ∧ Aside0 (Drawn0 (Lib.bytesWorld w 5 a0) wr)) (fun i _ => a0.size - (intOf i).toNat)
    case atStart => exact ⟨0, Nat.zero_le _, rfl, ⟨fun j hj => absurd hj (Nat.not_lt_zero _)⟩, ⟨Drawn0.refl _⟩⟩
    case round =>
      obtain ⟨k, hk, rfl, hall, hd⟩ := hrel
      have hb := bt_range a0 k
      by_cases hlt : k < a0.size
      · have hcell : wr.cell? ⟨w.heap.size, k, none⟩ = some (.int .u8 (bt a0 k)) := by
          obtain ⟨⟨m, rfl⟩⟩ := hd.out
          show (Lib.bytesWorld w 5 a0).cell? _ = _
          rw [Lib.bytesWorld_cell w 5 a0 k hlt, beg_cell a0 k hlt]
        have hnext := fun (h1 : begb k (bt a0 k) = true) => Aside0.mk (show ∀ j : Nat, j < k + 1 → begb j (bt a0 j) = true from fun j hj => by
          by_cases e : j = k
          · subst e; exact h1
          · exact hall.out j (by omega))
        have hbad := fun (h1 : begb k (bt a0 k) = false) => Aside0.mk (show ((List.range a0.size).all fun i => begb i (bt a0 i)) = false from by
          rw [List.all_eq_false]
          exact ⟨k, List.mem_range.2 hlt, by rw [h1]; decide⟩)
        generalize bt a0 k = c at hb hcell hnext hbad
        clear hall
        by_cases k0 : k = 0
        · have hbb : begb k c = (c == 64) := by subst k0; rfl
          have e0 : ((k : Int) == 0) = true := beq_iff_eq.2 (by omega)
          have e1 : ((k : Int) == 1) = false := beq_eq_false_iff_ne.2 (by omega)
          have e3 : ((k : Int) == 3) = false := beq_eq_false_iff_ne.2 (by omega)
          have e2 : ((k : Int) == 2) = false := beq_eq_false_iff_ne.2 (by omega)
          have e4 : ((k : Int) == 4) = false := beq_eq_false_iff_ne.2 (by omega)
          clear k0
          by_cases d : c = 64
          · have hn := hnext (by rw [hbb]; exact beq_iff_eq.2 d)
            clear hnext hbad hbb
            have d1 : (c == 64) = true := beq_iff_eq.2 d
            clear d
            go_wp2
            go_roundw
            case rel => exact ⟨k + 1, by omega, by go_num, hn, ⟨hd.out⟩⟩
            case measure => simp [intOf]; omega
          · obtain rfl : r = false := by rw [← HR.out]; exact (hbad (by rw [hbb]; exact beq_eq_false_iff_ne.2 d)).out
            clear hnext hbad hbb
            have d1 : (c == 64) = false := beq_eq_false_iff_ne.2 d
            clear d
            go_wp2
            go_ret
            exact ⟨rfl, (bytes_below (Below.refl w.heap.size w) (Nat.le_refl _) 5 a0).trans ((hd.out).below.mono (by rw [Lib.bytesWorld_size]; omega))⟩
        · skip
          by_cases k1 : k = 1
          · have hbb : begb k c = decide (49 ≤ c ∧ c ≤ 57) := by subst k1; rfl
            have e0 : ((k : Int) == 0) = false := beq_eq_false_iff_ne.2 (by omega)
            have e1 : ((k : Int) == 1) = true := beq_iff_eq.2 (by omega)
            have e3 : ((k : Int) == 3) = false := beq_eq_false_iff_ne.2 (by omega)
            have e2 : ((k : Int) == 2) = false := beq_eq_false_iff_ne.2 (by omega)
            have e4 : ((k : Int) == 4) = false := beq_eq_false_iff_ne.2 (by omega)
            clear k0 k1
            by_cases d : 49 ≤ c ∧ c ≤ 57
            · have hn := hnext (by rw [hbb]; exact decide_eq_true d)
              clear hnext hbad hbb
              have HF := Aside0.mk (show impl_figure.f c 49 = some true by unfold impl_figure.f; rw [if_pos d.1, decide_eq_true d.2])
              clear d
              go_wp2_with (go_at_call 75; refine (impl_figure.calls c 49 true _ HF.out).mono ?_; rintro e w' ⟨rfl, ⟨nd, rfl⟩⟩)
              go_roundw
              case rel => exact ⟨k + 1, by omega, by go_num, hn, ⟨hd.out.step nd⟩⟩
              case measure => simp [intOf]; omega
            · obtain rfl : r = false := by rw [← HR.out]; exact (hbad (by rw [hbb]; exact decide_eq_false d)).out
              clear hnext hbad hbb
              have HF := Aside0.mk (show impl_figure.f c 49 = some false by
                unfold impl_figure.f
                by_cases e : c ≥ 49
                · rw [if_pos e, decide_eq_false (by omega)]
                · rw [if_neg e])
              clear d
              go_wp2_with (go_at_call 75; refine (impl_figure.calls c 49 false _ HF.out).mono ?_; rintro e w' ⟨rfl, ⟨nd, rfl⟩⟩)
              go_ret
              exact ⟨rfl, (bytes_below (Below.refl w.heap.size w) (Nat.le_refl _) 5 a0).trans ((hd.out.step nd).below.mono (by rw [Lib.bytesWorld_size]; omega))⟩
          · skip
            by_cases k2 : k = 2
            · have hbb : begb k c = (c == 58) := by subst k2; rfl
              have e0 : ((k : Int) == 0) = false := beq_eq_false_iff_ne.2 (by omega)
              have e1 : ((k : Int) == 1) = false := beq_eq_false_iff_ne.2 (by omega)
              have e3 : ((k : Int) == 3) = false := beq_eq_false_iff_ne.2 (by omega)
              have e2 : ((k : Int) == 2) = true := beq_iff_eq.2 (by omega)
              have e4 : ((k : Int) == 4) = false := beq_eq_false_iff_ne.2 (by omega)
              clear k0 k1 k2
              by_cases d : c = 58
              · have hn := hnext (by rw [hbb]; exact beq_iff_eq.2 d)
                clear hnext hbad hbb
                have d1 : (c == 58) = true := beq_iff_eq.2 d
                clear d
                go_wp2
                go_roundw
                case rel => exact ⟨k + 1, by omega, by go_num, hn, ⟨hd.out⟩⟩
                case measure => simp [intOf]; omega
              · obtain rfl : r = false := by rw [← HR.out]; exact (hbad (by rw [hbb]; exact beq_eq_false_iff_ne.2 d)).out
                clear hnext hbad hbb
                have d1 : (c == 58) = false := beq_eq_false_iff_ne.2 d
                clear d
                go_wp2
                go_ret
                exact ⟨rfl, (bytes_below (Below.refl w.heap.size w) (Nat.le_refl _) 5 a0).trans ((hd.out).below.mono (by rw [Lib.bytesWorld_size]; omega))⟩
            · skip
              by_cases k3 : k = 3
              · have hbb : begb k c = decide (49 ≤ c ∧ c ≤ 57) := by subst k3; rfl
                have e0 : ((k : Int) == 0) = false := beq_eq_false_iff_ne.2 (by omega)
                have e1 : ((k : Int) == 1) = false := beq_eq_false_iff_ne.2 (by omega)
                have e3 : ((k : Int) == 3) = true := beq_iff_eq.2 (by omega)
                have e2 : ((k : Int) == 2) = false := beq_eq_false_iff_ne.2 (by omega)
                have e4 : ((k : Int) == 4) = false := beq_eq_false_iff_ne.2 (by omega)
                clear k0 k1 k2 k3
                by_cases d : 49 ≤ c ∧ c ≤ 57
                · have hn := hnext (by rw [hbb]; exact decide_eq_true d)
                  clear hnext hbad hbb
                  have HF := Aside0.mk (show impl_figure.f c 49 = some true by unfold impl_figure.f; rw [if_pos d.1, decide_eq_true d.2])
                  clear d
                  go_wp2_with (go_at_call 75; refine (impl_figure.calls c 49 true _ HF.out).mono ?_; rintro e w' ⟨rfl, ⟨nd, rfl⟩⟩)
                  go_roundw
                  case rel => exact ⟨k + 1, by omega, by go_num, hn, ⟨hd.out.step nd⟩⟩
                  case measure => simp [intOf]; omega
                · obtain rfl : r = false := by rw [← HR.out]; exact (hbad (by rw [hbb]; exact decide_eq_false d)).out
                  clear hnext hbad hbb
                  have HF := Aside0.mk (show impl_figure.f c 49 = some false by
                    unfold impl_figure.f
                    by_cases e : c ≥ 49
                    · rw [if_pos e, decide_eq_false (by omega)]
                    · rw [if_neg e])
                  clear d
                  go_wp2_with (go_at_call 75; refine (impl_figure.calls c 49 false _ HF.out).mono ?_; rintro e w' ⟨rfl, ⟨nd, rfl⟩⟩)
                  go_ret
                  exact ⟨rfl, (bytes_below (Below.refl w.heap.size w) (Nat.le_refl _) 5 a0).trans ((hd.out.step nd).below.mono (by rw [Lib.bytesWorld_size]; omega))⟩
              · skip
                by_cases k4 : k = 4
                · have hbb : begb k c = decide (48 ≤ c ∧ c ≤ 57) := by subst k4; rfl
                  have e0 : ((k : Int) == 0) = false := beq_eq_false_iff_ne.2 (by omega)
                  have e1 : ((k : Int) == 1) = false := beq_eq_false_iff_ne.2 (by omega)
                  have e3 : ((k : Int) == 3) = false := beq_eq_false_iff_ne.2 (by omega)
                  have e2 : ((k : Int) == 2) = false := beq_eq_false_iff_ne.2 (by omega)
                  have e4 : ((k : Int) == 4) = true := beq_iff_eq.2 (by omega)
                  clear k0 k1 k2 k3 k4
                  by_cases d : 48 ≤ c ∧ c ≤ 57
                  · have hn := hnext (by rw [hbb]; exact decide_eq_true d)
                    clear hnext hbad hbb
                    have HF := Aside0.mk (show impl_figure.f c 48 = some true by unfold impl_figure.f; rw [if_pos d.1, decide_eq_true d.2])
                    clear d
                    go_wp2_with (go_at_call 75; refine (impl_figure.calls c 48 true _ HF.out).mono ?_; rintro e w' ⟨rfl, ⟨nd, rfl⟩⟩)
                    go_roundw
                    case rel => exact ⟨k + 1, by omega, by go_num, hn, ⟨hd.out.step nd⟩⟩
                    case measure => simp [intOf]; omega
                  · obtain rfl : r = false := by rw [← HR.out]; exact (hbad (by rw [hbb]; exact decide_eq_false d)).out
                    clear hnext hbad hbb
                    have HF := Aside0.mk (show impl_figure.f c 48 = some false by
                      unfold impl_figure.f
                      by_cases e : c ≥ 48
                      · rw [if_pos e, decide_eq_false (by omega)]
                      · rw [if_neg e])
                    clear d
                    go_wp2_with (go_at_call 75; refine (impl_figure.calls c 48 false _ HF.out).mono ?_; rintro e w' ⟨rfl, ⟨nd, rfl⟩⟩)
                    go_ret
                    exact ⟨rfl, (bytes_below (Below.refl w.heap.size w) (Nat.le_refl _) 5 a0).trans ((hd.out.step nd).below.mono (by rw [Lib.bytesWorld_size]; omega))⟩
                · skip
                  have hbb : begb k c = false := by unfold begb; rw [if_neg k0, if_neg (by omega), if_neg k2, if_neg k4]
                  have e0 : ((k : Int) == 0) = false := beq_eq_false_iff_ne.2 (by omega)
                  have e1 : ((k : Int) == 1) = false := beq_eq_false_iff_ne.2 (by omega)
                  have e3 : ((k : Int) == 3) = false := beq_eq_false_iff_ne.2 (by omega)
                  have e2 : ((k : Int) == 2) = false := beq_eq_false_iff_ne.2 (by omega)
                  have e4 : ((k : Int) == 4) = false := beq_eq_false_iff_ne.2 (by omega)
                  clear k0 k1 k2 k3 k4
                  obtain rfl : r = false := by rw [← HR.out]; exact (hbad hbb).out
                  clear hnext hbad hbb
                  go_wp2
                  go_ret
                  exact ⟨rfl, (bytes_below (Below.refl w.heap.size w) (Nat.le_refl _) 5 a0).trans ((hd.out).below.mono (by rw [Lib.bytesWorld_size]; omega))⟩
      · have hk2 : k = a0.size := by omega
        have hfin : Aside0 (r = true) := ⟨by
          rw [← HR.out, List.all_eq_true]
          intro x hx
          exact hall.out x (by have := List.mem_range.1 hx; omega)⟩
        clear hall hk2
        obtain rfl := hfin.out
        clear hfin
        go_wp2
        go_ret
        exact ⟨rfl, (bytes_below (Below.refl w.heap.size w) (Nat.le_refl _) 5 a0).trans (hd.out.below.mono (by rw [Lib.bytesWorld_size]; omega))⟩
  · rw [if_neg hs] at h; cases h

/-! ### impl_held: function 66 -/
def impl_held.l0 : Nat → ByteArray → Int → Option (Int)
  | 0, _, _ => none
  | k + 1, x0, x3 => if x3 > 0 then (if 0 ≤ (wrap64 ((x0.size : Int) - x3)) then (if (wrap64 ((x0.size : Int) - x3)) ≤ (x0.size : Int) then ((impl_beginning.f (x0.extract ((wrap64 ((x0.size : Int) - x3)) : Int).toNat x0.size)).bind fun t488 => (if t488 = true then (some x3) else (impl_held.l0 k x0 (wrap64 (x3 - 1))))) else (none)) else (none)) else (some 0)
def impl_held.f (k : Nat) (a0 : ByteArray) : Option (Int) := impl_held.l0 k a0 (mn 5 (a0.size : Int))
theorem impl_held.mono_l : ∀ k, (∀ y0 y1, LeO (impl_held.l0 k y0 y1) (impl_held.l0 (k + 1) y0 y1))
  | 0 => fun _ _ r h => by simp [impl_held.l0] at h
  | k + 1 => by
    have ih0 := impl_held.mono_l k
    · intro y0 y1
      unfold impl_held.l0
      repeat' first
      | (with_reducible exact ih0 _ _)
      | (with_reducible exact LeO.refl _)
      | (with_reducible exact LeO.none _)
      | (with_reducible refine LeO.ite ?_ ?_)
      | (with_reducible refine LeO.bind ?_ (fun _ => ?_))
      | exact ih0 _ _
      | exact LeO.none _
      | refine LeO.ite ?_ ?_
      | refine LeO.bind ?_ (fun _ => ?_)
theorem impl_held.mono : ∀ a0 k, LeO (impl_held.f k a0) (impl_held.f (k + 1) a0) := by
  intro a0 k
  have ih0 := impl_held.mono_l k
  unfold impl_held.f
  repeat' first
      | (with_reducible exact ih0 _ _)
      | (with_reducible exact LeO.refl _)
      | (with_reducible exact LeO.none _)
      | (with_reducible refine LeO.ite ?_ ?_)
      | (with_reducible refine LeO.bind ?_ (fun _ => ?_))
      | exact ih0 _ _
      | exact LeO.none _
      | refine LeO.ite ?_ ?_
      | refine LeO.bind ?_ (fun _ => ?_)
set_option maxHeartbeats 8000000 in
set_option maxRecDepth 100000 in
theorem impl_held.calls (k : Nat) (a0 : ByteArray) (r : Int) (w : World) (h : impl_held.f k a0 = some r) :
    Calls Tryd.prog 66 #[.string a0] w fun e w' => e = .returned (.int .i64 r) ∧ Below w.heap.size w w' := by
  have HB := Aside0.mk (Below.refl w.heap.size w)
  have H : (impl_held.l0 k a0 (mn 5 (a0.size : Int))) = some r := h
  clear h
  obtain ⟨ji2, hji2⟩ : ∃ j_ : Int, (mn 5 (a0.size : Int)) = j_ := ⟨_, rfl⟩
  replace H : (impl_held.l0 k a0 ji2) = some r := by first | (rw [hji2] at H; exact H) | (simp only [hji2] at H ⊢; exact H)
  (try (have hji2h : ji2 ≤ 5 := by (rw [← hji2]; unfold mn; (repeat' split) <;> omega)))
  (try (have hji2g : ji2 ≤ 64 := by omega))
  (try (have hji2l : 0 ≤ ji2 := by (rw [← hji2]; unfold mn; (repeat' split) <;> omega)))
  (try (have hji2m : 0 ≤ ji2 := by omega))
  have hji2_ : (if (a0.size : Int) < 5 then (a0.size : Int) else 5) = ji2 := hji2
  have H' := Aside0.mk H
  clear H
  go_enter Tryd.func66, Tryd.ntmps66
  go_wp2
  go_loopg [3] k (fun kq v3 w' => ∃ (x3_1 : Int), v3 = .int .i64 x3_1 ∧ Aside0 (impl_held.l0 kq a0 x3_1 = some r) ∧ Aside0 (kq ≤ k) ∧ Aside0 (Below w.heap.size w w'))
  case atStart => exact ⟨(ji2), (by first | rfl | (simp; done) | (simp only [← hji2] <;> (first | rfl | simp)) | (simp [*]; done)), H', ⟨Nat.le_refl _⟩, ⟨by repeat (first | (with_reducible first | exact HB.out | apply below_alloc | apply pw_below_drewN | apply below_drew1) | exact HB.out)⟩⟩
  case round =>
    clear H'
    try clear p2
    obtain ⟨x3_1, rfl, HA, HK1, HB⟩ := hrel
    cases gk with
    | zero => exact absurd HA.out (by simp [impl_held.l0])
    | succ k1 =>
      have H := HA.out
      clear HA
      simp only [impl_held.l0] at H
      by_cases c3 : x3_1 > 0
      · rw [if_pos c3] at H
        have c3b0 : decide (0 < x3_1) = true := decide_eq_true c3
        clear c3
        obtain ⟨ji4, hji4⟩ : ∃ j_ : Int, (wrap64 ((a0.size : Int) - x3_1)) = j_ := ⟨_, rfl⟩
        replace H : (if 0 ≤ (ji4) then (if (ji4) ≤ (a0.size : Int) then ((impl_beginning.f (a0.extract ((ji4) : Int).toNat a0.size)).bind fun t488 => (if t488 = true then (some x3_1) else (impl_held.l0 k1 a0 (wrap64 (x3_1 - 1))))) else (none)) else (none)) = some r := by first | (rw [hji4] at H; exact H) | (simp only [hji4] at H ⊢; exact H)
        have hji4w : (IntKind.i64.wrap ((a0.size : Int) - x3_1)) = ji4 := (i64_w _).trans hji4
        by_cases c5 : 0 ≤ (ji4)
        · rw [if_pos c5] at H
          have c5b0 := eq_true c5
          have c5b1 : decide (0 ≤ (ji4)) = true := decide_eq_true c5
          clear c5
          by_cases c6 : (ji4) ≤ (a0.size : Int)
          · rw [if_pos c6] at H
            have c6b0 := eq_true c6
            have c6b1 : decide ((ji4) ≤ (a0.size : Int)) = true := decide_eq_true c6
            clear c6
            replace H := Option.bind_eq_some_iff.mp H
            obtain ⟨t488, A70, H⟩ := H
            replace H : (if t488 = true then (some x3_1) else (impl_held.l0 k1 a0 (wrap64 (x3_1 - 1)))) = some r := H
            have A7 := Aside0.mk A70
            clear A70
            by_cases c8 : t488 = true
            · subst c8
              have H1 : (some x3_1) = some r := by rw [if_pos rfl] at H; exact H
              clear H
              have H := H1
              clear H1
              obtain rfl := Option.some.inj H
              go_wp2_with (first | ((with_reducible refine gate_callee (f := 82) rfl ?_); refine goesL_ (some 17) rfl rfl Tryd.func82 (by kernel_rfl) rfl #[.string (a0.extract ((ji4) : Int).toNat a0.size)] rfl (by (try simp only [List.map_toArray, List.map_cons, List.map_nil]); first | done | (simp only [hji4]; rfl) | rfl | (simp only [List.length_drop, List.length_take]; rfl)) ?_; (with_reducible refine (impl_beginning.calls (a0.extract ((ji4) : Int).toNat a0.size) true _ A7.out).mono ?_); rintro e w9 ⟨rfl, hb⟩; refine ⟨_, rfl, ?_⟩; have n0_ := Aside0.mk (below_step (by repeat (first | (with_reducible first | exact HB.out | apply below_alloc | apply pw_below_drewN | apply below_drew1) | exact HB.out)) hb); clear HB; have HB := n0_; clear n0_; (try clear hb); (try clear hb2); (try clear hk); (try clear hi)))
              go_ret
              exact ⟨by first | rfl | (simp [errW_none, errW_some] <;> rfl) | (simp only [← hji2, ← hji4]; first | rfl | (simp [errW_none, errW_some] <;> rfl)) | (simp [*, errW_none, errW_some] <;> rfl) | (simp [errW_none, errW_some, pk_empty1, pk_empty2]; done) | (simp [*, errW_none, errW_some, pk_empty1, pk_empty2]; done), by repeat (first | (with_reducible first | exact HB.out | apply below_alloc | apply pw_below_drewN | apply below_drew1) | exact HB.out)⟩
            · replace c8 := Bool.eq_false_iff.mpr c8
              subst c8
              have H1 : (impl_held.l0 k1 a0 (wrap64 (x3_1 - 1))) = some r := by rw [if_neg (show ¬ (false = true) by decide)] at H; exact H
              clear H
              have H := H1
              clear H1
              have H' := Aside0.mk H
              clear H
              go_wp2_with (first | ((with_reducible refine gate_callee (f := 82) rfl ?_); refine goesL_ (some 17) rfl rfl Tryd.func82 (by kernel_rfl) rfl #[.string (a0.extract ((ji4) : Int).toNat a0.size)] rfl (by (try simp only [List.map_toArray, List.map_cons, List.map_nil]); first | done | (simp only [hji4]; rfl) | rfl | (simp only [List.length_drop, List.length_take]; rfl)) ?_; (with_reducible refine (impl_beginning.calls (a0.extract ((ji4) : Int).toNat a0.size) false _ A7.out).mono ?_); rintro e w10 ⟨rfl, hb⟩; refine ⟨_, rfl, ?_⟩; have n0_ := Aside0.mk (below_step (by repeat (first | (with_reducible first | exact HB.out | apply below_alloc | apply pw_below_drewN | apply below_drew1) | exact HB.out)) hb); clear HB; have HB := n0_; clear n0_; (try clear hb); (try clear hb2); (try clear hk); (try clear hi)))
              go_roundg k1
              case measure => have := HK1.out; omega
              case rel => exact ⟨(wrap64 (x3_1 - 1)), (by first | rfl | (simp; done) | (simp [*]; done)), H', ⟨by have := HK1.out; omega⟩, ⟨by repeat (first | (with_reducible first | exact HB.out | apply below_alloc | apply pw_below_drewN | apply below_drew1) | exact HB.out)⟩⟩
          · rw [if_neg c6] at H
            exact absurd H (by simp)
        · rw [if_neg c5] at H
          exact absurd H (by simp)
      · rw [if_neg c3] at H
        have c3b0 : decide (0 < x3_1) = false := decide_eq_false c3
        clear c3
        obtain rfl := Option.some.inj H
        go_wp2
        go_ret
        exact ⟨by first | rfl | (simp [errW_none, errW_some] <;> rfl) | (simp only [← hji2]; first | rfl | (simp [errW_none, errW_some] <;> rfl)) | (simp [*, errW_none, errW_some] <;> rfl) | (simp [errW_none, errW_some, pk_empty1, pk_empty2]; done) | (simp [*, errW_none, errW_some, pk_empty1, pk_empty2]; done), by repeat (first | (with_reducible first | exact HB.out | apply below_alloc | apply pw_below_drewN | apply below_drew1) | exact HB.out)⟩

/-! ### impl_TextHeld: function 38 -/
def impl_TextHeld.f (k : Nat) (a0 : ByteArray) : Option (Int) := (impl_TextOk.f a0).bind fun t489 => (if t489 = true then ((impl_held.f k a0).bind fun t490 => (some t490)) else (some 0))
theorem impl_TextHeld.mono : ∀ a0 k, LeO (impl_TextHeld.f k a0) (impl_TextHeld.f (k + 1) a0) := by
  intro a0 k
  unfold impl_TextHeld.f
  repeat' first
      | (with_reducible exact impl_held.mono _ _)
      | (with_reducible exact LeO.refl _)
      | (with_reducible exact LeO.none _)
      | (with_reducible refine LeO.ite ?_ ?_)
      | (with_reducible refine LeO.bind ?_ (fun _ => ?_))
      | exact impl_held.mono _ _
      | exact LeO.none _
      | refine LeO.ite ?_ ?_
      | refine LeO.bind ?_ (fun _ => ?_)
set_option maxHeartbeats 8000000 in
set_option maxRecDepth 100000 in
theorem impl_TextHeld.calls (k : Nat) (a0 : ByteArray) (r : Int) (w : World) (h : impl_TextHeld.f k a0 = some r) :
    Calls Tryd.prog 38 #[.string a0] w fun e w' => e = .returned (.int .i64 r) ∧ Below w.heap.size w w' := by
  have HB := Aside0.mk (Below.refl w.heap.size w)
  have H : ((impl_TextOk.f a0).bind fun t489 => (if t489 = true then ((impl_held.f k a0).bind fun t490 => (some t490)) else (some 0))) = some r := h
  clear h
  replace H := Option.bind_eq_some_iff.mp H
  obtain ⟨t489, A20, H⟩ := H
  replace H : (if t489 = true then ((impl_held.f k a0).bind fun t490 => (some t490)) else (some 0)) = some r := H
  have A2 := Aside0.mk A20
  clear A20
  by_cases c3 : t489 = true
  · subst c3
    have H1 : ((impl_held.f k a0).bind fun t490 => (some t490)) = some r := by rw [if_pos rfl] at H; exact H
    clear H
    have H := H1
    clear H1
    replace H := Option.bind_eq_some_iff.mp H
    obtain ⟨t490, A40, H⟩ := H
    replace H : (some t490) = some r := H
    have A4 := Aside0.mk A40
    clear A40
    obtain rfl := Option.some.inj H
    go_enter Tryd.func38, Tryd.ntmps38
    go_wp2_with (first | ((with_reducible refine gate_callee (f := 59) rfl ?_); refine goesL_ (some 4) rfl rfl Tryd.func59 (by kernel_rfl) rfl #[.string a0] rfl (by (try simp only [List.map_toArray, List.map_cons, List.map_nil]); first | done | rfl | (simp only [List.length_drop, List.length_take]; rfl)) ?_; (with_reducible refine (impl_TextOk.calls a0 true _ A2.out).mono ?_); rintro e w5 ⟨rfl, hb⟩; refine ⟨_, rfl, ?_⟩; have n0_ := Aside0.mk (below_step (by repeat (first | (with_reducible first | exact HB.out | apply below_alloc | apply pw_below_drewN | apply below_drew1) | exact HB.out)) hb); clear HB; have HB := n0_; clear n0_; (try clear hb); (try clear hb2); (try clear hk); (try clear hi)) | ((with_reducible refine gate_callee (f := 66) rfl ?_); refine goesL_ (some 7) rfl rfl Tryd.func66 (by kernel_rfl) rfl #[.string a0] rfl (by (try simp only [List.map_toArray, List.map_cons, List.map_nil]); first | done | rfl | (simp only [List.length_drop, List.length_take]; rfl)) ?_; (with_reducible refine (impl_held.calls k a0 t490 _ A4.out).mono ?_); rintro e w6 ⟨rfl, hb⟩; refine ⟨_, rfl, ?_⟩; have n0_ := Aside0.mk (below_step (by repeat (first | (with_reducible first | exact HB.out | apply below_alloc | apply pw_below_drewN | apply below_drew1) | exact HB.out)) hb); clear HB; have HB := n0_; clear n0_; (try clear hb); (try clear hb2); (try clear hk); (try clear hi)))
    go_ret
    exact ⟨by first | rfl | (simp [errW_none, errW_some] <;> rfl) | (simp [*, errW_none, errW_some] <;> rfl) | (simp [errW_none, errW_some, pk_empty1, pk_empty2]; done) | (simp [*, errW_none, errW_some, pk_empty1, pk_empty2]; done), by repeat (first | (with_reducible first | exact HB.out | apply below_alloc | apply pw_below_drewN | apply below_drew1) | exact HB.out)⟩
  · replace c3 := Bool.eq_false_iff.mpr c3
    subst c3
    have H1 : (some 0) = some r := by rw [if_neg (show ¬ (false = true) by decide)] at H; exact H
    clear H
    have H := H1
    clear H1
    obtain rfl := Option.some.inj H
    go_enter Tryd.func38, Tryd.ntmps38
    go_wp2_with (first | ((with_reducible refine gate_callee (f := 59) rfl ?_); refine goesL_ (some 4) rfl rfl Tryd.func59 (by kernel_rfl) rfl #[.string a0] rfl (by (try simp only [List.map_toArray, List.map_cons, List.map_nil]); first | done | rfl | (simp only [List.length_drop, List.length_take]; rfl)) ?_; (with_reducible refine (impl_TextOk.calls a0 false _ A2.out).mono ?_); rintro e w7 ⟨rfl, hb⟩; refine ⟨_, rfl, ?_⟩; have n0_ := Aside0.mk (below_step (by repeat (first | (with_reducible first | exact HB.out | apply below_alloc | apply pw_below_drewN | apply below_drew1) | exact HB.out)) hb); clear HB; have HB := n0_; clear n0_; (try clear hb); (try clear hb2); (try clear hk); (try clear hi)))
    go_ret
    exact ⟨by first | rfl | (simp [errW_none, errW_some] <;> rfl) | (simp [*, errW_none, errW_some] <;> rfl) | (simp [errW_none, errW_some, pk_empty1, pk_empty2]; done) | (simp [*, errW_none, errW_some, pk_empty1, pk_empty2]; done), by repeat (first | (with_reducible first | exact HB.out | apply below_alloc | apply pw_below_drewN | apply below_drew1) | exact HB.out)⟩

end Go.Proofs.YtdphdheodloofaaDoor.A
