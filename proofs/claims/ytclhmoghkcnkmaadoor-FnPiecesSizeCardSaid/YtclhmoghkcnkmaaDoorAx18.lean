-- Printed by myprint.py (wip/tools) out of the translation. Not trusted: Lean checks it.
import Derived.Test.YtclhmoghkcnkmaaDoorAx0
import Derived.Test.YtclhmoghkcnkmaaDoorAx5
import Derived.Test.YtclhmoghkcnkmaaDoorAx6
import Derived.Test.YtclhmoghkcnkmaaDoorAx8
import Derived.Test.YtclhmoghkcnkmaaDoorAx11
namespace Go.Proofs.YtclhmoghkcnkmaaDoor.A
open Go.RowKit Go.Proofs.YtclhmoghkcnkmaaDoorW.PrintWords Go.Proofs.YtclhmoghkcnkmaaDoorW.PrintLast Go.Proofs.YtclhmoghkcnkmaaDoorW.PrintMore
attribute [local go_sem] max2_int min2_int max_two min_two max_three min_three max_four min_four   -- for this text's walks alone
set_option linter.unusedVariables false
set_option linter.unusedSimpArgs false

/-! ### laws_FnPiecesSize: function 6 -/
mutual
def laws_FnPiecesSize.l0 : Nat → List (S34) → Int → Option (Bool)
 | 0, _, _ => none
 | k + 1, x4, x5 => if x5 < (x4.length : Int) then (if 0 ≤ x5 then (if (rd_T34 x4 x5).f1 = true then (laws_FnPiecesSize.j1 k x4 x5 5 ((rd_T34 x4 x5).f0) ((rd_T34 x4 x5).f1) ((rd_T34 x4 x5).f2.f0) ((rd_T34 x4 x5).f2.f1)) else (laws_FnPiecesSize.j1 k x4 x5 1 ((rd_T34 x4 x5).f0) ((rd_T34 x4 x5).f1) ((rd_T34 x4 x5).f2.f0) ((rd_T34 x4 x5).f2.f1))) else (none)) else (some true)
def laws_FnPiecesSize.j1 : Nat → List (S34) → Int → Int → Int → Bool → Int → Int → Option (Bool)
 | 0, _, _, _, _, _, _, _ => none
 | k + 1, x4, x5, x7, x416000, x416001, x416002, x416003 => if x416001 = true then ((impl_EndDoor.f x416002 x416003).bind fun t416 => (laws_FnPiecesSize.j2 k x4 x5 x7 t416 x416000 x416001 x416002 x416003)) else (laws_FnPiecesSize.j2 k x4 x5 x7 false x416000 x416001 x416002 x416003)
def laws_FnPiecesSize.j2 : Nat → List (S34) → Int → Int → Bool → Int → Bool → Int → Int → Option (Bool)
 | 0, _, _, _, _, _, _, _, _ => none
 | k + 1, x4, x5, x7, x38, x416000, x416001, x416002, x416003 => if x38 = true then (if x416000 = 6 then (laws_FnPiecesSize.l0 k x4 (wrap64 (x5 + 1))) else (some false)) else (if x416000 = x7 then (laws_FnPiecesSize.l0 k x4 (wrap64 (x5 + 1))) else (some false))
end
def laws_FnPiecesSize.f (k : Nat) (l0 : List Int) : Option (Bool) := if (l0.length : Int) > 1048576 then (some true) else ((spec_DrawTextPieces.f k l0).bind fun t406 => ((impl_TextPieces.f k t406).bind fun t407 => ((spec_TextPieces.f k t406).bind fun t410 => ((laws_lzPieces.f k t407 t410).bind fun t413 => (if t413 = true then (laws_FnPiecesSize.l0 k t407 0) else (some false))))))
theorem laws_FnPiecesSize.mono_l : ∀ k, (∀ y0 y1, LeO (laws_FnPiecesSize.l0 k y0 y1) (laws_FnPiecesSize.l0 (k + 1) y0 y1)) ∧ (∀ y0 y1 y2 y3 y4 y5 y6, LeO (laws_FnPiecesSize.j1 k y0 y1 y2 y3 y4 y5 y6) (laws_FnPiecesSize.j1 (k + 1) y0 y1 y2 y3 y4 y5 y6)) ∧ (∀ y0 y1 y2 y3 y4 y5 y6 y7, LeO (laws_FnPiecesSize.j2 k y0 y1 y2 y3 y4 y5 y6 y7) (laws_FnPiecesSize.j2 (k + 1) y0 y1 y2 y3 y4 y5 y6 y7))
 | 0 => ⟨fun _ _ r h => by simp [laws_FnPiecesSize.l0] at h, fun _ _ _ _ _ _ _ r h => by simp [laws_FnPiecesSize.j1] at h, fun _ _ _ _ _ _ _ _ r h => by simp [laws_FnPiecesSize.j2] at h⟩
 | k + 1 => by
  obtain ⟨ih0, ih1, ih2⟩ := laws_FnPiecesSize.mono_l k
  refine ⟨?_, ?_, ?_⟩
  ·intro y0 y1
   unfold laws_FnPiecesSize.l0
   repeat' first
   | (with_reducible exact ih0 _ _)
   | (with_reducible exact ih1 _ _ _ _ _ _ _)
   | (with_reducible exact ih2 _ _ _ _ _ _ _ _)
   | (with_reducible exact impl_TextPieces.mono _ _)
   | (with_reducible exact laws_lzPieces.mono _ _ _)
   | (with_reducible exact spec_DrawTextPieces.mono _ _)
   | (with_reducible exact spec_TextPieces.mono _ _)
   | (with_reducible exact LeO.refl _)
   | (with_reducible exact LeO.none _)
   | (with_reducible refine LeO.ite ?_ ?_)
   | (with_reducible refine LeO.bind ?_ (fun _ => ?_))
   | exact ih0 _ _
   | exact ih1 _ _ _ _ _ _ _
   | exact ih2 _ _ _ _ _ _ _ _
   | exact impl_TextPieces.mono _ _
   | exact laws_lzPieces.mono _ _ _
   | exact spec_DrawTextPieces.mono _ _
   | exact spec_TextPieces.mono _ _
   | exact LeO.none _
   | refine LeO.ite ?_ ?_
   | refine LeO.bind ?_ (fun _ => ?_)
  ·intro y0 y1 y2 y3 y4 y5 y6
   unfold laws_FnPiecesSize.j1
   repeat' first
   | (with_reducible exact ih0 _ _)
   | (with_reducible exact ih1 _ _ _ _ _ _ _)
   | (with_reducible exact ih2 _ _ _ _ _ _ _ _)
   | (with_reducible exact impl_TextPieces.mono _ _)
   | (with_reducible exact laws_lzPieces.mono _ _ _)
   | (with_reducible exact spec_DrawTextPieces.mono _ _)
   | (with_reducible exact spec_TextPieces.mono _ _)
   | (with_reducible exact LeO.refl _)
   | (with_reducible exact LeO.none _)
   | (with_reducible refine LeO.ite ?_ ?_)
   | (with_reducible refine LeO.bind ?_ (fun _ => ?_))
   | exact ih0 _ _
   | exact ih1 _ _ _ _ _ _ _
   | exact ih2 _ _ _ _ _ _ _ _
   | exact impl_TextPieces.mono _ _
   | exact laws_lzPieces.mono _ _ _
   | exact spec_DrawTextPieces.mono _ _
   | exact spec_TextPieces.mono _ _
   | exact LeO.none _
   | refine LeO.ite ?_ ?_
   | refine LeO.bind ?_ (fun _ => ?_)
  ·intro y0 y1 y2 y3 y4 y5 y6 y7
   unfold laws_FnPiecesSize.j2
   repeat' first
   | (with_reducible exact ih0 _ _)
   | (with_reducible exact ih1 _ _ _ _ _ _ _)
   | (with_reducible exact ih2 _ _ _ _ _ _ _ _)
   | (with_reducible exact impl_TextPieces.mono _ _)
   | (with_reducible exact laws_lzPieces.mono _ _ _)
   | (with_reducible exact spec_DrawTextPieces.mono _ _)
   | (with_reducible exact spec_TextPieces.mono _ _)
   | (with_reducible exact LeO.refl _)
   | (with_reducible exact LeO.none _)
   | (with_reducible refine LeO.ite ?_ ?_)
   | (with_reducible refine LeO.bind ?_ (fun _ => ?_))
   | exact ih0 _ _
   | exact ih1 _ _ _ _ _ _ _
   | exact ih2 _ _ _ _ _ _ _ _
   | exact impl_TextPieces.mono _ _
   | exact laws_lzPieces.mono _ _ _
   | exact spec_DrawTextPieces.mono _ _
   | exact spec_TextPieces.mono _ _
   | exact LeO.none _
   | refine LeO.ite ?_ ?_
   | refine LeO.bind ?_ (fun _ => ?_)
theorem laws_FnPiecesSize.mono : ∀ a0 k, LeO (laws_FnPiecesSize.f k a0) (laws_FnPiecesSize.f (k + 1) a0) := by
 intro a0 k
 obtain ⟨ih0, ih1, ih2⟩ := laws_FnPiecesSize.mono_l k
 unfold laws_FnPiecesSize.f
 repeat' first
   | (with_reducible exact ih0 _ _)
   | (with_reducible exact ih1 _ _ _ _ _ _ _)
   | (with_reducible exact ih2 _ _ _ _ _ _ _ _)
   | (with_reducible exact impl_TextPieces.mono _ _)
   | (with_reducible exact laws_lzPieces.mono _ _ _)
   | (with_reducible exact spec_DrawTextPieces.mono _ _)
   | (with_reducible exact spec_TextPieces.mono _ _)
   | (with_reducible exact LeO.refl _)
   | (with_reducible exact LeO.none _)
   | (with_reducible refine LeO.ite ?_ ?_)
   | (with_reducible refine LeO.bind ?_ (fun _ => ?_))
   | exact ih0 _ _
   | exact ih1 _ _ _ _ _ _ _
   | exact ih2 _ _ _ _ _ _ _ _
   | exact impl_TextPieces.mono _ _
   | exact laws_lzPieces.mono _ _ _
   | exact spec_DrawTextPieces.mono _ _
   | exact spec_TextPieces.mono _ _
   | exact LeO.none _
   | refine LeO.ite ?_ ?_
   | refine LeO.bind ?_ (fun _ => ?_)
set_option maxHeartbeats 8000000 in
set_option maxRecDepth 100000 in
theorem laws_FnPiecesSize.calls (k : Nat) (A0 : Option Addr) (c0 : Nat) (l0 : List Int) (r : Bool) (w : World) (hr0 : Kd.C (Kd.int .u8) w A0 l0.length l0) (hc0 : l0.length ≤ c0) (hG : GV w) (h : laws_FnPiecesSize.f k l0 = some r) :
  Calls Tryd.prog 6 #[.slice A0 l0.length c0] w fun e w' => e = .returned (.bool r) ∧ Below w.heap.size w w' := by
 have hu34 := Tryd.underlying34
 have hu32 := Tryd.underlying32
 have HG := Aside0.mk hG
 clear hG
 have HR0 := Aside0.mk hr0
 have HC0 := Aside0.mk hc0
 clear hr0 hc0
 have HB := Aside0.mk (Below.refl w.heap.size w)
 have H : (if (l0.length : Int) > 1048576 then (some true) else ((spec_DrawTextPieces.f k l0).bind fun t406 => ((impl_TextPieces.f k t406).bind fun t407 => ((spec_TextPieces.f k t406).bind fun t410 => ((laws_lzPieces.f k t407 t410).bind fun t413 => (if t413 = true then (laws_FnPiecesSize.l0 k t407 0) else (some false))))))) = some r := h
 clear h
 by_cases c2 : (l0.length : Int) > 1048576
 ·rw [if_pos c2] at H
  have c2b0 : decide (1048576 < (l0.length : Int)) = true := decide_eq_true c2
  have c2b1 : decide (1048576 < l0.length) = true := decide_eq_true (by omega)
  clear c2
  obtain rfl := Option.some.inj H
  go_enter Tryd.func6, Tryd.ntmps6
  go_wp2
  go_ret
  exact ⟨by first | rfl | (simp [errW_none, errW_some] <;> rfl) | (simp [*, errW_none, errW_some] <;> rfl) | (simp [errW_none, errW_some, pk_empty1, pk_empty2]; done) | (simp [*, errW_none, errW_some, pk_empty1, pk_empty2]; done), by repeat (first | (with_reducible first | exact HB.out | apply below_alloc | apply pw_below_drewN | apply below_drew1) | exact HB.out)⟩
 ·rw [if_neg c2] at H
  have c2b0 : decide (1048576 < (l0.length : Int)) = false := decide_eq_false c2
  have c2b1 : decide (1048576 < l0.length) = false := decide_eq_false (by omega)
  clear c2
  replace H := Option.bind_eq_some_iff.mp H
  obtain ⟨t406, A30, H⟩ := H
  replace H : ((impl_TextPieces.f k t406).bind fun t407 => ((spec_TextPieces.f k t406).bind fun t410 => ((laws_lzPieces.f k t407 t410).bind fun t413 => (if t413 = true then (laws_FnPiecesSize.l0 k t407 0) else (some false))))) = some r := H
  have A3 := Aside0.mk A30
  clear A30
  replace H := Option.bind_eq_some_iff.mp H
  obtain ⟨t407, A40, H⟩ := H
  replace H : ((spec_TextPieces.f k t406).bind fun t410 => ((laws_lzPieces.f k t407 t410).bind fun t413 => (if t413 = true then (laws_FnPiecesSize.l0 k t407 0) else (some false)))) = some r := H
  have A4 := Aside0.mk A40
  clear A40
  replace H := Option.bind_eq_some_iff.mp H
  obtain ⟨t410, A50, H⟩ := H
  replace H : ((laws_lzPieces.f k t407 t410).bind fun t413 => (if t413 = true then (laws_FnPiecesSize.l0 k t407 0) else (some false))) = some r := H
  have A5 := Aside0.mk A50
  clear A50
  replace H := Option.bind_eq_some_iff.mp H
  obtain ⟨t413, A60, H⟩ := H
  replace H : (if t413 = true then (laws_FnPiecesSize.l0 k t407 0) else (some false)) = some r := H
  have A6 := Aside0.mk A60
  clear A60
  by_cases c7 : t413 = true
  ·subst c7
   have H1 : (laws_FnPiecesSize.l0 k t407 0) = some r := by rw [if_pos rfl] at H; exact H
   clear H
   have H := H1
   clear H1
   have H' := Aside0.mk H
   clear H
   go_enter Tryd.func6, Tryd.ntmps6
   go_wp2_with (first | ((with_reducible refine gate_callee (f := 23) rfl ?_); refine goesL_ (some 12) rfl rfl Tryd.func23 (by kernel_rfl) rfl #[.slice A0 l0.length c0] rfl (by (try simp only [List.map_toArray, List.map_cons, List.map_nil]); first | done | rfl | (simp only [List.length_drop, List.length_take]; rfl)) ?_; (with_reducible refine (spec_DrawTextPieces.calls k _ _ l0 t406 _ ?side1 ?side2 A3.out).mono ?_); (case side1 => repeat (first | exact HR0.out | (with_reducible refine Kd.C_alloc ?_ _) | (with_reducible refine Kd.C_drewN ?_ _) | (with_reducible refine Kd.C_drew ?_))); (case side2 => exact HC0.out); rintro e w8 ⟨rfl, hb⟩; refine ⟨_, rfl, ?_⟩; have n0_ := Aside0.mk (below_step (by repeat (first | (with_reducible first | exact HB.out | apply below_alloc | apply pw_below_drewN | apply below_drew1) | exact HB.out)) hb); clear HB; have HB := n0_; clear n0_; (try clear hb); (try clear hb2); (try clear hk); (try clear hi)) | ((with_reducible refine gate_callee (f := 15) rfl ?_); refine goesL_ (some 14) rfl rfl Tryd.func15 (by kernel_rfl) rfl #[.string t406] rfl (by (try simp only [List.map_toArray, List.map_cons, List.map_nil]); first | done | rfl | (simp only [List.length_drop, List.length_take]; rfl)) ?_; (with_reducible refine (impl_TextPieces.calls k t406 t407 _ ?side1 A4.out).mono ?_); (case side1 => first | exact HG.out | exact GV_below HG.out (by repeat (first | (with_reducible first | exact HB.out | apply below_alloc | apply pw_below_drewN | apply below_drew1) | exact HB.out))); rintro e w9 ⟨v408, rfl, ho0, hb⟩; refine ⟨_, rfl, ?_⟩; have n0_ := Aside0.mk (Kd.R_lower ho0 (below_size (by repeat (first | (with_reducible first | exact HB.out | apply below_alloc | apply pw_below_drewN | apply below_drew1) | exact HB.out)))); have n1_ := Aside0.mk (below_step (by repeat (first | (with_reducible first | exact HB.out | apply below_alloc | apply pw_below_drewN | apply below_drew1) | exact HB.out)) hb); clear HB; have HO409 := n0_; have HB := n1_; clear n0_ n1_; (try clear hb); (try clear hb2); (try clear hk); (try clear hi); (try clear ho0)) | ((with_reducible refine gate_callee (f := 14) rfl ?_); refine goesL_ (some 17) rfl rfl Tryd.func14 (by kernel_rfl) rfl #[.string t406] rfl (by (try simp only [List.map_toArray, List.map_cons, List.map_nil]); first | done | rfl | (simp only [List.length_drop, List.length_take]; rfl)) ?_; (with_reducible refine (spec_TextPieces.calls k t406 t410 _ A5.out).mono ?_); rintro e w10 ⟨v411, rfl, ho0, hb⟩; refine ⟨_, rfl, ?_⟩; have n0_ := Aside0.mk (Kd.R_elder' (by (with_reducible repeat (first | apply Kd.R_alloc | apply Kd.R_drewN | apply Kd.R_drew)); exact HO409.out) (Kd.R_base ho0) hb); have n1_ := Aside0.mk (Kd.R_lower (Kd.R_new' ho0 (Kd.R_lt (by (with_reducible repeat (first | apply Kd.R_alloc | apply Kd.R_drewN | apply Kd.R_drew)); exact HO409.out))) (below_size (by repeat (first | (with_reducible first | exact HB.out | apply below_alloc | apply pw_below_drewN | apply below_drew1) | exact HB.out)))); have n2_ := Aside0.mk (below_step (by repeat (first | (with_reducible first | exact HB.out | apply below_alloc | apply pw_below_drewN | apply below_drew1) | exact HB.out)) hb); clear HO409; clear HB; have HO409 := n0_; have HO412 := n1_; have HB := n2_; clear n0_ n1_ n2_; (try clear hb); (try clear hb2); (try clear hk); (try clear hi); (try clear ho0); obtain ⟨Ao11, co11, eo11⟩ := Kd.R_slice HO409.out; subst eo11; obtain ⟨Ao12, co12, eo12⟩ := Kd.R_slice HO412.out; subst eo12) | ((with_reducible refine gate_callee (f := 24) rfl ?_); refine goesL_ (some 18) rfl rfl Tryd.func24 (by kernel_rfl) rfl #[.slice Ao11 t407.length co11, .slice Ao12 t410.length co12] rfl (by (try simp only [List.map_toArray, List.map_cons, List.map_nil]); first | done | rfl | (simp only [List.length_drop, List.length_take]; rfl)) ?_; (with_reducible refine (laws_lzPieces.calls k _ _ t407 _ _ t410 true _ ?side1 ?side2 ?side3 ?side4 A6.out).mono ?_); (case side1 => repeat (first | exact (Kd.R_reads' HO409.out).2.2 | (with_reducible refine Kd.C_alloc ?_ _) | (with_reducible refine Kd.C_drewN ?_ _) | (with_reducible refine Kd.C_drew ?_))); (case side2 => exact (Kd.R_reads' HO409.out).2.1); (case side3 => repeat (first | exact (Kd.R_reads' HO412.out).2.2 | (with_reducible refine Kd.C_alloc ?_ _) | (with_reducible refine Kd.C_drewN ?_ _) | (with_reducible refine Kd.C_drew ?_))); (case side4 => exact (Kd.R_reads' HO412.out).2.1); rintro e w' ⟨rfl, ⟨nd, rfl⟩⟩; refine ⟨_, rfl, ?_⟩))
   go_loopg [5] k (fun kq v5 w' => ∃ (x5_1 : Int), v5 = .int .i64 x5_1 ∧ Aside0 (laws_FnPiecesSize.l0 kq t407 x5_1 = some r) ∧ Aside0 (kq ≤ k) ∧ Aside0 (Kd.R k34 34 w' w.heap.size (fun _ => True) (.slice Ao11 t407.length co11) t407) ∧ Aside0 (Below w.heap.size w w'))
   case atStart => exact ⟨(0), (by first | rfl | (simp; done) | (simp [*]; done)), H', ⟨Nat.le_refl _⟩, ⟨by (with_reducible repeat (first | apply Kd.R_alloc | apply Kd.R_drewN | apply Kd.R_drew)); exact Kd.R_mono HO409.out (fun _ hk => trivial)⟩, ⟨by repeat (first | (with_reducible first | exact HB.out | apply below_alloc | apply pw_below_drewN | apply below_drew1) | exact HB.out)⟩⟩
   case round =>
    clear H'
    try clear c1
    try clear c2
    try clear c2b0
    try clear c2b1
    try clear p2
    try clear c6
    try clear c7
    obtain ⟨x5_1, rfl, HA, HK1, HO_4, HB⟩ := hrel
    cases gk with
    | zero => exact absurd HA.out (by simp [laws_FnPiecesSize.l0])
    | succ k1 =>
     have H := HA.out
     clear HA
     simp only [laws_FnPiecesSize.l0] at H
     by_cases c13 : x5_1 < (t407.length : Int)
     ·rw [if_pos c13] at H
      have c13b0 : decide (x5_1 < (t407.length : Int)) = true := decide_eq_true c13
      clear c13
      by_cases c14 : 0 ≤ x5_1
      ·rw [if_pos c14] at H
       have c14b0 : decide (0 ≤ x5_1) = true := decide_eq_true c14
       clear c14
       have HC15 := Aside0.mk H
       clear H
       have p414 : 0 ≤ (x5_1 : Int) := of_decide_eq_true (by first | (with_reducible assumption) | assumption)
       have q414 : x5_1 < (t407.length : Int) := of_decide_eq_true (by first | (with_reducible assumption) | assumption)
       obtain ⟨ad414, e414, hx414_0, hx414_1, hx414_2, hx414_3⟩ := at_T34 (Kd.R_reads' HO_4.out).2.2 x5_1 p414 q414
       cases e414
       replace p414 := eq_true p414
       replace q414 := eq_true q414
       go_upto_if 31 with (first | ((with_reducible refine gate_dst (N := 6) rfl ?_); refine box_event ?hg (N := 6) ?hd (cs := #[.int .i64 0, .bool false, .int .i64 0, .int .i64 0]) (t := 34) ?hr ?_; (case hd => rfl); (case hg => rfl); (case hr => first | (go_simp; done) | (go_simp; rfl)); intro gb415 hg w16 hbox hb; have n0_ := Aside0.mk (Kd.R_below (Kd.R_elderB (by (with_reducible repeat (first | apply Kd.R_alloc | apply Kd.R_drewN | apply Kd.R_drew)); exact HO_4.out) gb415 (Nat.le_of_eq hg.symm)) hb); have n1_ := Aside0.mk (below_step (by repeat (first | (with_reducible first | exact HB.out | apply below_alloc | apply pw_below_drewN | apply below_drew1) | exact HB.out)) hb); have n2_ := Aside0.mk (hbox); have n3_ := Aside0.mk ((by rw [hg]; exact (below_size (by repeat (first | (with_reducible first | exact HB.out | apply below_alloc | apply pw_below_drewN | apply below_drew1) | exact HB.out))) : w.heap.size ≤ gb415)); have n4_ := Aside0.mk ((by rw [hg]; exact (below_size (by repeat (first | (with_reducible first | exact HB.out | apply below_alloc | apply pw_below_drewN | apply below_drew1) | exact HB.out))) : w.heap.size ≤ gb415)); clear HO_4; clear HB; have HO_4 := n0_; have HB := n1_; have BK415 := n2_; have GW415 := n3_; have GE415 := n4_; clear n0_ n1_ n2_ n3_ n4_; clear hb hbox hg; have hcz17_0 : w16.cell? ⟨gb415, 0, none⟩ = some (.int .i64 0) := (blk_cell BK415.out 0).trans rfl; have hcz17_1 : w16.cell? ⟨gb415, 1, none⟩ = some (.bool false) := (blk_cell BK415.out 1).trans rfl; have hcz17_2 : w16.cell? ⟨gb415, 2, none⟩ = some (.int .i64 0) := (blk_cell BK415.out 2).trans rfl; have hcz17_3 : w16.cell? ⟨gb415, 3, none⟩ = some (.int .i64 0) := (blk_cell BK415.out 3).trans rfl; have hfz17_0 := blk_frozen BK415.out 0; have hfz17_1 := blk_frozen BK415.out 1; have hfz17_2 := blk_frozen BK415.out 2; have hfz17_3 := blk_frozen BK415.out 3))
       (try simp only [Act.put, s1_, s2_, s3_])
       go_cut [7] (fun v7 wc => ∃ (kq : Nat) (x7_14 : Int), v7 = .int .i64 x7_14 ∧ Aside0 (laws_FnPiecesSize.j1 kq t407 x5_1 x7_14 ((rd_T34 t407 x5_1).f0) ((rd_T34 t407 x5_1).f1) ((rd_T34 t407 x5_1).f2.f0) ((rd_T34 t407 x5_1).f2.f1) = some r) ∧ Aside0 (kq ≤ k1) ∧ Aside0 (Kd.R k34 34 wc w.heap.size (fun k_ => k_ ≠ gb415) (.slice (some ad414) t407.length co11) t407) ∧ Aside0 (wc.heap[gb415]? = some (.cells #[.int .i64 ((rd_T34 t407 x5_1).f0), .bool ((rd_T34 t407 x5_1).f1), .int .i64 ((rd_T34 t407 x5_1).f2.f0), .int .i64 ((rd_T34 t407 x5_1).f2.f1)] 34 (0, 0))) ∧ Aside0 (Below w.heap.size w wc))
       case first =>
        have H := HC15.out
        clear HC15
        obtain ⟨bq18, hbq18⟩ : ∃ b_ : Bool, b_ = ((rd_T34 t407 x5_1).f1) := ⟨_, rfl⟩
        replace H : (if bq18 = true then (laws_FnPiecesSize.j1 k1 t407 x5_1 5 ((rd_T34 t407 x5_1).f0) bq18 ((rd_T34 t407 x5_1).f2.f0) ((rd_T34 t407 x5_1).f2.f1)) else (laws_FnPiecesSize.j1 k1 t407 x5_1 1 ((rd_T34 t407 x5_1).f0) bq18 ((rd_T34 t407 x5_1).f2.f0) ((rd_T34 t407 x5_1).f2.f1))) = some r := by rw [← hbq18] at H; exact H
        have Nbq18 := Aside0.mk hbq18
        clear hbq18
        (try rw [← Nbq18.out])
        by_cases c19 : bq18 = true
        ·subst c19
         have H1 : (laws_FnPiecesSize.j1 k1 t407 x5_1 5 ((rd_T34 t407 x5_1).f0) true ((rd_T34 t407 x5_1).f2.f0) ((rd_T34 t407 x5_1).f2.f1)) = some r := by rw [if_pos rfl] at H; exact H
         clear H
         have H := H1
         clear H1
         have H' := Aside0.mk H
         clear H
         go_wp2
         go_meet
         case rel => rw [← Nbq18.out]; exact ⟨_, (5), (by first | rfl | (simp; done) | (simp [*]; done)), H', ⟨by have := HK1.out; first | omega | exact Nat.le_refl _⟩, ⟨by (with_reducible repeat (first | apply Kd.R_alloc | apply Kd.R_drewN | apply Kd.R_drew)); exact Kd.R_mono (Kd.R_far (p := ⟨gb415, 3, none⟩) (Kd.R_far (p := ⟨gb415, 2, none⟩) (Kd.R_far (p := ⟨gb415, 1, none⟩) (Kd.R_far (p := ⟨gb415, 0, none⟩) (Kd.R_mono HO_4.out (fun k_ hk => (⟨hk, hk.2⟩ : _ ∧ k_ ≠ gb415))) (fun _ hk => hk.2) (.int .i64 ((rd_T34 t407 x5_1).f0))) (fun _ hk => hk.2) (.bool (true))) (fun _ hk => hk.2) (.int .i64 ((rd_T34 t407 x5_1).f2.f0))) (fun _ hk => hk.2) (.int .i64 ((rd_T34 t407 x5_1).f2.f1))) (fun _ hk => hk.1.2)⟩, ⟨by (with_reducible repeat (first | refine blk_drewN ?_ _ | refine blk_drew ?_ | refine blk_alloc ?_ _)); refine blk_put (cs := #[.int .i64 ((rd_T34 t407 x5_1).f0), .bool (true), .int .i64 ((rd_T34 t407 x5_1).f2.f0), .int .i64 0]) ?_ 3 _ rfl; (with_reducible repeat (first | refine blk_drewN ?_ _ | refine blk_drew ?_ | refine blk_alloc ?_ _)); refine blk_put (cs := #[.int .i64 ((rd_T34 t407 x5_1).f0), .bool (true), .int .i64 0, .int .i64 0]) ?_ 2 _ rfl; (with_reducible repeat (first | refine blk_drewN ?_ _ | refine blk_drew ?_ | refine blk_alloc ?_ _)); refine blk_put (cs := #[.int .i64 ((rd_T34 t407 x5_1).f0), .bool false, .int .i64 0, .int .i64 0]) ?_ 1 _ rfl; (with_reducible repeat (first | refine blk_drewN ?_ _ | refine blk_drew ?_ | refine blk_alloc ?_ _)); refine blk_put (cs := #[.int .i64 0, .bool false, .int .i64 0, .int .i64 0]) ?_ 0 _ rfl; (with_reducible repeat (first | refine blk_drewN ?_ _ | refine blk_drew ?_ | refine blk_alloc ?_ _)); exact BK415.out⟩, ⟨by repeat (first | (with_reducible first | exact HB.out | apply below_alloc | apply pw_below_drewN | apply below_drew1 | refine below_set ?_ GE415.out) | exact HB.out)⟩⟩
        ·replace c19 := Bool.eq_false_iff.mpr c19
         subst c19
         have H1 : (laws_FnPiecesSize.j1 k1 t407 x5_1 1 ((rd_T34 t407 x5_1).f0) false ((rd_T34 t407 x5_1).f2.f0) ((rd_T34 t407 x5_1).f2.f1)) = some r := by rw [if_neg (show ¬ (false = true) by decide)] at H; exact H
         clear H
         have H := H1
         clear H1
         have H' := Aside0.mk H
         clear H
         go_wp2
         go_meet
         case rel => rw [← Nbq18.out]; exact ⟨_, (1), (by first | rfl | (simp; done) | (simp [*]; done)), H', ⟨by have := HK1.out; first | omega | exact Nat.le_refl _⟩, ⟨by (with_reducible repeat (first | apply Kd.R_alloc | apply Kd.R_drewN | apply Kd.R_drew)); exact Kd.R_mono (Kd.R_far (p := ⟨gb415, 3, none⟩) (Kd.R_far (p := ⟨gb415, 2, none⟩) (Kd.R_far (p := ⟨gb415, 1, none⟩) (Kd.R_far (p := ⟨gb415, 0, none⟩) (Kd.R_mono HO_4.out (fun k_ hk => (⟨hk, hk.2⟩ : _ ∧ k_ ≠ gb415))) (fun _ hk => hk.2) (.int .i64 ((rd_T34 t407 x5_1).f0))) (fun _ hk => hk.2) (.bool (false))) (fun _ hk => hk.2) (.int .i64 ((rd_T34 t407 x5_1).f2.f0))) (fun _ hk => hk.2) (.int .i64 ((rd_T34 t407 x5_1).f2.f1))) (fun _ hk => hk.1.2)⟩, ⟨by (with_reducible repeat (first | refine blk_drewN ?_ _ | refine blk_drew ?_ | refine blk_alloc ?_ _)); refine blk_put (cs := #[.int .i64 ((rd_T34 t407 x5_1).f0), .bool (false), .int .i64 ((rd_T34 t407 x5_1).f2.f0), .int .i64 0]) ?_ 3 _ rfl; (with_reducible repeat (first | refine blk_drewN ?_ _ | refine blk_drew ?_ | refine blk_alloc ?_ _)); refine blk_put (cs := #[.int .i64 ((rd_T34 t407 x5_1).f0), .bool (false), .int .i64 0, .int .i64 0]) ?_ 2 _ rfl; (with_reducible repeat (first | refine blk_drewN ?_ _ | refine blk_drew ?_ | refine blk_alloc ?_ _)); refine blk_put (cs := #[.int .i64 ((rd_T34 t407 x5_1).f0), .bool false, .int .i64 0, .int .i64 0]) ?_ 1 _ rfl; (with_reducible repeat (first | refine blk_drewN ?_ _ | refine blk_drew ?_ | refine blk_alloc ?_ _)); refine blk_put (cs := #[.int .i64 0, .bool false, .int .i64 0, .int .i64 0]) ?_ 0 _ rfl; (with_reducible repeat (first | refine blk_drewN ?_ _ | refine blk_drew ?_ | refine blk_alloc ?_ _)); exact BK415.out⟩, ⟨by repeat (first | (with_reducible first | exact HB.out | apply below_alloc | apply pw_below_drewN | apply below_drew1 | refine below_set ?_ GE415.out) | exact HB.out)⟩⟩
       case rest =>
        clear HC15
        try clear c1
        try clear q1
        try clear c2
        try clear c2b0
        try clear c2b1
        try clear p2
        try clear p4
        try clear q4
        try clear hx4
        try clear c6
        try clear c7
        try clear c13
        try clear c13b0
        try clear c14
        try clear c14b0
        try clear c15
        try clear q18
        try clear c19
        try clear hcz17_0
        try clear hcz17_1
        try clear hcz17_2
        try clear hcz17_3
        try clear hfz17_0
        try clear hfz17_1
        try clear hfz17_2
        try clear hfz17_3
        try clear hx414_0
        try clear hx414_1
        try clear hx414_2
        try clear hx414_3
        try clear p2
        try clear p414
        try clear q414
        obtain ⟨kq, x7_14, rfl, HA, HJ14, HO_4, BK415, HB⟩ := hcut
        cases kq with
        | zero => exact absurd HA.out (by simp [laws_FnPiecesSize.j1])
        | succ kj14 =>
         have H := HA.out
         clear HA
         simp only [laws_FnPiecesSize.j1] at H
         have HC20 := Aside0.mk H
         clear H
         go_upto_region 14 with (fail)
         go_cut [38] (fun v38 wc => ∃ (kq : Nat) (x38_19 : Bool), v38 = .bool x38_19 ∧ Aside0 (laws_FnPiecesSize.j2 kq t407 x5_1 x7_14 x38_19 ((rd_T34 t407 x5_1).f0) ((rd_T34 t407 x5_1).f1) ((rd_T34 t407 x5_1).f2.f0) ((rd_T34 t407 x5_1).f2.f1) = some r) ∧ Aside0 (kq ≤ kj14) ∧ Aside0 (Kd.R k34 34 wc w.heap.size (fun k_ => k_ ≠ gb415) (.slice (some ad414) t407.length co11) t407) ∧ Aside0 (wc.heap[gb415]? = some (.cells #[.int .i64 ((rd_T34 t407 x5_1).f0), .bool ((rd_T34 t407 x5_1).f1), .int .i64 ((rd_T34 t407 x5_1).f2.f0), .int .i64 ((rd_T34 t407 x5_1).f2.f1)] 34 (0, 0))) ∧ Aside0 (Below w.heap.size w wc))
         case first =>
          have H := HC20.out
          clear HC20
          by_cases c21 : ((rd_T34 t407 x5_1).f1) = true
          ·rw [if_pos c21] at H
           have c21b0 : ((rd_T34 t407 x5_1).f1) = true := c21
           clear c21
           (first | rw [c21b0] | (simp only [i64_w, i32_w]; rw [c21b0]) | skip)
           replace H := Option.bind_eq_some_iff.mp H
           obtain ⟨t416, A220, H⟩ := H
           replace H : (laws_FnPiecesSize.j2 kj14 t407 x5_1 x7_14 t416 ((rd_T34 t407 x5_1).f0) ((rd_T34 t407 x5_1).f1) ((rd_T34 t407 x5_1).f2.f0) ((rd_T34 t407 x5_1).f2.f1)) = some r := H
           have A22 := Aside0.mk A220
           clear A220
           have H' := Aside0.mk H
           clear H
           have hcz23_0 : wc.cell? ⟨gb415, 0, none⟩ = some (.int .i64 ((rd_T34 t407 x5_1).f0)) := (blk_cell BK415.out 0).trans rfl
           have hcz23_1 : wc.cell? ⟨gb415, 1, none⟩ = some (.bool ((rd_T34 t407 x5_1).f1)) := (blk_cell BK415.out 1).trans rfl
           have hcz23_2 : wc.cell? ⟨gb415, 2, none⟩ = some (.int .i64 ((rd_T34 t407 x5_1).f2.f0)) := (blk_cell BK415.out 2).trans rfl
           have hcz23_3 : wc.cell? ⟨gb415, 3, none⟩ = some (.int .i64 ((rd_T34 t407 x5_1).f2.f1)) := (blk_cell BK415.out 3).trans rfl
           have hfz23_0 := blk_frozen BK415.out 0
           have hfz23_1 := blk_frozen BK415.out 1
           have hfz23_2 := blk_frozen BK415.out 2
           have hfz23_3 := blk_frozen BK415.out 3
           go_wp2_with (first | (go_at_call 25; (with_reducible refine (impl_EndDoor.calls ((rd_T34 t407 x5_1).f2.f0) ((rd_T34 t407 x5_1).f2.f1) t416 _ A22.out).mono ?_); rintro e w24 ⟨rfl, hb⟩; have n0_ := Aside0.mk (Kd.R_below (by (with_reducible repeat (first | apply Kd.R_alloc | apply Kd.R_drewN | apply Kd.R_drew)); exact HO_4.out) hb); have n1_ := Aside0.mk (blk_below (g := gb415) (o := .cells #[.int .i64 ((rd_T34 t407 x5_1).f0), .bool ((rd_T34 t407 x5_1).f1), .int .i64 ((rd_T34 t407 x5_1).f2.f0), .int .i64 ((rd_T34 t407 x5_1).f2.f1)] 34 (0, 0)) (by (with_reducible repeat (first | refine blk_drewN ?_ _ | refine blk_drew ?_ | refine blk_alloc ?_ _)); exact BK415.out) hb); have n2_ := Aside0.mk (below_step (by repeat (first | (with_reducible first | exact HB.out | apply below_alloc | apply pw_below_drewN | apply below_drew1 | refine below_set ?_ GE415.out) | exact HB.out)) hb); clear HO_4; clear BK415; clear HB; have HO_4 := n0_; have BK415 := n1_; have HB := n2_; clear n0_ n1_ n2_; (try clear hb); (try clear hb2); (try clear hk); (try clear hi)))
           go_meet
           case rel => exact ⟨_, (t416), (by first | rfl | (simp; done) | (simp [*]; done)), H', ⟨by have := HK1.out; have := HJ14.out; first | omega | exact Nat.le_refl _⟩, ⟨by (with_reducible repeat (first | apply Kd.R_alloc | apply Kd.R_drewN | apply Kd.R_drew)); exact HO_4.out⟩, ⟨by (with_reducible repeat (first | refine blk_drewN ?_ _ | refine blk_drew ?_ | refine blk_alloc ?_ _)); exact BK415.out⟩, ⟨by repeat (first | (with_reducible first | exact HB.out | apply below_alloc | apply pw_below_drewN | apply below_drew1 | refine below_set ?_ GE415.out) | exact HB.out)⟩⟩
          ·rw [if_neg c21] at H
           have c21b0 : ((rd_T34 t407 x5_1).f1) = false := by simpa using c21
           clear c21
           (first | rw [c21b0] | (simp only [i64_w, i32_w]; rw [c21b0]) | skip)
           have H' := Aside0.mk H
           clear H
           have hcz25_0 : wc.cell? ⟨gb415, 0, none⟩ = some (.int .i64 ((rd_T34 t407 x5_1).f0)) := (blk_cell BK415.out 0).trans rfl
           have hcz25_1 : wc.cell? ⟨gb415, 1, none⟩ = some (.bool ((rd_T34 t407 x5_1).f1)) := (blk_cell BK415.out 1).trans rfl
           have hcz25_2 : wc.cell? ⟨gb415, 2, none⟩ = some (.int .i64 ((rd_T34 t407 x5_1).f2.f0)) := (blk_cell BK415.out 2).trans rfl
           have hcz25_3 : wc.cell? ⟨gb415, 3, none⟩ = some (.int .i64 ((rd_T34 t407 x5_1).f2.f1)) := (blk_cell BK415.out 3).trans rfl
           have hfz25_0 := blk_frozen BK415.out 0
           have hfz25_1 := blk_frozen BK415.out 1
           have hfz25_2 := blk_frozen BK415.out 2
           have hfz25_3 := blk_frozen BK415.out 3
           go_wp2
           go_meet
           case rel => exact ⟨_, (false), (by first | rfl | (simp; done) | (simp [*]; done)), H', ⟨by have := HK1.out; have := HJ14.out; first | omega | exact Nat.le_refl _⟩, ⟨by (with_reducible repeat (first | apply Kd.R_alloc | apply Kd.R_drewN | apply Kd.R_drew)); exact HO_4.out⟩, ⟨by (with_reducible repeat (first | refine blk_drewN ?_ _ | refine blk_drew ?_ | refine blk_alloc ?_ _)); exact BK415.out⟩, ⟨by repeat (first | (with_reducible first | exact HB.out | apply below_alloc | apply pw_below_drewN | apply below_drew1 | refine below_set ?_ GE415.out) | exact HB.out)⟩⟩
         case rest =>
          clear HC20
          try clear c1
          try clear q1
          try clear c2
          try clear c2b0
          try clear c2b1
          try clear p2
          try clear p4
          try clear q4
          try clear hx4
          try clear c6
          try clear c7
          try clear c13
          try clear c13b0
          try clear c14
          try clear c14b0
          try clear c15
          try clear q18
          try clear c19
          try clear c21
          try clear c21b0
          try clear c23
          try clear c24
          try clear hcz17_0
          try clear hcz17_1
          try clear hcz17_2
          try clear hcz17_3
          try clear hcz23_0
          try clear hcz23_1
          try clear hcz23_2
          try clear hcz23_3
          try clear hcz25_0
          try clear hcz25_1
          try clear hcz25_2
          try clear hcz25_3
          try clear hfz17_0
          try clear hfz17_1
          try clear hfz17_2
          try clear hfz17_3
          try clear hfz23_0
          try clear hfz23_1
          try clear hfz23_2
          try clear hfz23_3
          try clear hfz25_0
          try clear hfz25_1
          try clear hfz25_2
          try clear hfz25_3
          try clear hx414_0
          try clear hx414_1
          try clear hx414_2
          try clear hx414_3
          try clear p2
          try clear p4
          try clear p414
          try clear q1
          try clear q18
          try clear q4
          try clear q414
          obtain ⟨kq, x38_19, rfl, HA, HJ19, HO_4, BK415, HB⟩ := hcut
          cases kq with
          | zero => exact absurd HA.out (by simp [laws_FnPiecesSize.j2])
          | succ kj19 =>
           have H := HA.out
           clear HA
           simp only [laws_FnPiecesSize.j2] at H
           by_cases c26 : x38_19 = true
           ·subst c26
            have H1 : (if ((rd_T34 t407 x5_1).f0) = 6 then (laws_FnPiecesSize.l0 kj19 t407 (wrap64 (x5_1 + 1))) else (some false)) = some r := by rw [if_pos rfl] at H; exact H
            clear H
            have H := H1
            clear H1
            by_cases c27 : ((rd_T34 t407 x5_1).f0) = 6
            ·rw [if_pos c27] at H
             have c27b0 : (((rd_T34 t407 x5_1).f0) == 6) = true := beq_iff_eq.mpr c27
             have c27b1 : (((rd_T34 t407 x5_1).f0) != 6) = false := bne_eq_false_iff_eq.mpr c27
             clear c27
             have H' := Aside0.mk H
             clear H
             have hcz28_0 : wc.cell? ⟨gb415, 0, none⟩ = some (.int .i64 ((rd_T34 t407 x5_1).f0)) := (blk_cell BK415.out 0).trans rfl
             have hcz28_1 : wc.cell? ⟨gb415, 1, none⟩ = some (.bool ((rd_T34 t407 x5_1).f1)) := (blk_cell BK415.out 1).trans rfl
             have hcz28_2 : wc.cell? ⟨gb415, 2, none⟩ = some (.int .i64 ((rd_T34 t407 x5_1).f2.f0)) := (blk_cell BK415.out 2).trans rfl
             have hcz28_3 : wc.cell? ⟨gb415, 3, none⟩ = some (.int .i64 ((rd_T34 t407 x5_1).f2.f1)) := (blk_cell BK415.out 3).trans rfl
             have hfz28_0 := blk_frozen BK415.out 0
             have hfz28_1 := blk_frozen BK415.out 1
             have hfz28_2 := blk_frozen BK415.out 2
             have hfz28_3 := blk_frozen BK415.out 3
             go_wp2
             go_roundg kj19
             case measure => have := HK1.out; have := HJ14.out; have := HJ19.out; omega
             case rel => exact ⟨(wrap64 (x5_1 + 1)), (by first | rfl | (simp; done) | (simp [*]; done)), H', ⟨by have := HK1.out; have := HJ14.out; have := HJ19.out; omega⟩, ⟨by (with_reducible repeat (first | apply Kd.R_alloc | apply Kd.R_drewN | apply Kd.R_drew)); exact Kd.R_mono HO_4.out (fun _ hk => trivial)⟩, ⟨by repeat (first | (with_reducible first | exact HB.out | apply below_alloc | apply pw_below_drewN | apply below_drew1 | refine below_set ?_ GE415.out) | exact HB.out)⟩⟩
            ·rw [if_neg c27] at H
             have c27b0 : (((rd_T34 t407 x5_1).f0) == 6) = false := beq_eq_false_iff_ne.mpr c27
             have c27b1 : (((rd_T34 t407 x5_1).f0) != 6) = true := bne_iff_ne.mpr c27
             obtain rfl := Option.some.inj H
             have hcz29_0 : wc.cell? ⟨gb415, 0, none⟩ = some (.int .i64 ((rd_T34 t407 x5_1).f0)) := (blk_cell BK415.out 0).trans rfl
             have hcz29_1 : wc.cell? ⟨gb415, 1, none⟩ = some (.bool ((rd_T34 t407 x5_1).f1)) := (blk_cell BK415.out 1).trans rfl
             have hcz29_2 : wc.cell? ⟨gb415, 2, none⟩ = some (.int .i64 ((rd_T34 t407 x5_1).f2.f0)) := (blk_cell BK415.out 2).trans rfl
             have hcz29_3 : wc.cell? ⟨gb415, 3, none⟩ = some (.int .i64 ((rd_T34 t407 x5_1).f2.f1)) := (blk_cell BK415.out 3).trans rfl
             have hfz29_0 := blk_frozen BK415.out 0
             have hfz29_1 := blk_frozen BK415.out 1
             have hfz29_2 := blk_frozen BK415.out 2
             have hfz29_3 := blk_frozen BK415.out 3
             go_wp2
             go_ret
             exact ⟨by first | rfl | (simp [errW_none, errW_some] <;> rfl) | (simp [*, errW_none, errW_some] <;> rfl) | (simp [errW_none, errW_some, pk_empty1, pk_empty2]; done) | (simp [*, errW_none, errW_some, pk_empty1, pk_empty2]; done), by repeat (first | (with_reducible first | exact HB.out | apply below_alloc | apply pw_below_drewN | apply below_drew1 | refine below_set ?_ GE415.out) | exact HB.out)⟩
           ·replace c26 := Bool.eq_false_iff.mpr c26
            subst c26
            have H1 : (if ((rd_T34 t407 x5_1).f0) = x7_14 then (laws_FnPiecesSize.l0 kj19 t407 (wrap64 (x5_1 + 1))) else (some false)) = some r := by rw [if_neg (show ¬ (false = true) by decide)] at H; exact H
            clear H
            have H := H1
            clear H1
            by_cases c30 : ((rd_T34 t407 x5_1).f0) = x7_14
            ·rw [if_pos c30] at H
             have c30b0 : (((rd_T34 t407 x5_1).f0) == x7_14) = true := beq_iff_eq.mpr c30
             have c30b1 : (((rd_T34 t407 x5_1).f0) != x7_14) = false := bne_eq_false_iff_eq.mpr c30
             clear c30
             have H' := Aside0.mk H
             clear H
             have hcz31_0 : wc.cell? ⟨gb415, 0, none⟩ = some (.int .i64 ((rd_T34 t407 x5_1).f0)) := (blk_cell BK415.out 0).trans rfl
             have hcz31_1 : wc.cell? ⟨gb415, 1, none⟩ = some (.bool ((rd_T34 t407 x5_1).f1)) := (blk_cell BK415.out 1).trans rfl
             have hcz31_2 : wc.cell? ⟨gb415, 2, none⟩ = some (.int .i64 ((rd_T34 t407 x5_1).f2.f0)) := (blk_cell BK415.out 2).trans rfl
             have hcz31_3 : wc.cell? ⟨gb415, 3, none⟩ = some (.int .i64 ((rd_T34 t407 x5_1).f2.f1)) := (blk_cell BK415.out 3).trans rfl
             have hfz31_0 := blk_frozen BK415.out 0
             have hfz31_1 := blk_frozen BK415.out 1
             have hfz31_2 := blk_frozen BK415.out 2
             have hfz31_3 := blk_frozen BK415.out 3
             go_wp2
             go_roundg kj19
             case measure => have := HK1.out; have := HJ14.out; have := HJ19.out; omega
             case rel => exact ⟨(wrap64 (x5_1 + 1)), (by first | rfl | (simp; done) | (simp [*]; done)), H', ⟨by have := HK1.out; have := HJ14.out; have := HJ19.out; omega⟩, ⟨by (with_reducible repeat (first | apply Kd.R_alloc | apply Kd.R_drewN | apply Kd.R_drew)); exact Kd.R_mono HO_4.out (fun _ hk => trivial)⟩, ⟨by repeat (first | (with_reducible first | exact HB.out | apply below_alloc | apply pw_below_drewN | apply below_drew1 | refine below_set ?_ GE415.out) | exact HB.out)⟩⟩
            ·rw [if_neg c30] at H
             have c30b0 : (((rd_T34 t407 x5_1).f0) == x7_14) = false := beq_eq_false_iff_ne.mpr c30
             have c30b1 : (((rd_T34 t407 x5_1).f0) != x7_14) = true := bne_iff_ne.mpr c30
             obtain rfl := Option.some.inj H
             have hcz32_0 : wc.cell? ⟨gb415, 0, none⟩ = some (.int .i64 ((rd_T34 t407 x5_1).f0)) := (blk_cell BK415.out 0).trans rfl
             have hcz32_1 : wc.cell? ⟨gb415, 1, none⟩ = some (.bool ((rd_T34 t407 x5_1).f1)) := (blk_cell BK415.out 1).trans rfl
             have hcz32_2 : wc.cell? ⟨gb415, 2, none⟩ = some (.int .i64 ((rd_T34 t407 x5_1).f2.f0)) := (blk_cell BK415.out 2).trans rfl
             have hcz32_3 : wc.cell? ⟨gb415, 3, none⟩ = some (.int .i64 ((rd_T34 t407 x5_1).f2.f1)) := (blk_cell BK415.out 3).trans rfl
             have hfz32_0 := blk_frozen BK415.out 0
             have hfz32_1 := blk_frozen BK415.out 1
             have hfz32_2 := blk_frozen BK415.out 2
             have hfz32_3 := blk_frozen BK415.out 3
             go_wp2
             go_ret
             exact ⟨by first | rfl | (simp [errW_none, errW_some] <;> rfl) | (simp [*, errW_none, errW_some] <;> rfl) | (simp [errW_none, errW_some, pk_empty1, pk_empty2]; done) | (simp [*, errW_none, errW_some, pk_empty1, pk_empty2]; done), by repeat (first | (with_reducible first | exact HB.out | apply below_alloc | apply pw_below_drewN | apply below_drew1 | refine below_set ?_ GE415.out) | exact HB.out)⟩
      ·rw [if_neg c14] at H
       exact absurd H (by simp)
     ·rw [if_neg c13] at H
      have c13b0 : decide (x5_1 < (t407.length : Int)) = false := decide_eq_false c13
      clear c13
      obtain rfl := Option.some.inj H
      go_wp2
      go_ret
      exact ⟨by first | rfl | (simp [errW_none, errW_some] <;> rfl) | (simp [*, errW_none, errW_some] <;> rfl) | (simp [errW_none, errW_some, pk_empty1, pk_empty2]; done) | (simp [*, errW_none, errW_some, pk_empty1, pk_empty2]; done), by repeat (first | (with_reducible first | exact HB.out | apply below_alloc | apply pw_below_drewN | apply below_drew1) | exact HB.out)⟩
  ·replace c7 := Bool.eq_false_iff.mpr c7
   subst c7
   have H1 : (some false) = some r := by rw [if_neg (show ¬ (false = true) by decide)] at H; exact H
   clear H
   have H := H1
   clear H1
   obtain rfl := Option.some.inj H
   go_enter Tryd.func6, Tryd.ntmps6
   go_wp2_with (first | ((with_reducible refine gate_callee (f := 23) rfl ?_); refine goesL_ (some 12) rfl rfl Tryd.func23 (by kernel_rfl) rfl #[.slice A0 l0.length c0] rfl (by (try simp only [List.map_toArray, List.map_cons, List.map_nil]); first | done | rfl | (simp only [List.length_drop, List.length_take]; rfl)) ?_; (with_reducible refine (spec_DrawTextPieces.calls k _ _ l0 t406 _ ?side1 ?side2 A3.out).mono ?_); (case side1 => repeat (first | exact HR0.out | (with_reducible refine Kd.C_alloc ?_ _) | (with_reducible refine Kd.C_drewN ?_ _) | (with_reducible refine Kd.C_drew ?_))); (case side2 => exact HC0.out); rintro e w33 ⟨rfl, hb⟩; refine ⟨_, rfl, ?_⟩; have n0_ := Aside0.mk (below_step (by repeat (first | (with_reducible first | exact HB.out | apply below_alloc | apply pw_below_drewN | apply below_drew1) | exact HB.out)) hb); clear HB; have HB := n0_; clear n0_; (try clear hb); (try clear hb2); (try clear hk); (try clear hi)) | ((with_reducible refine gate_callee (f := 15) rfl ?_); refine goesL_ (some 14) rfl rfl Tryd.func15 (by kernel_rfl) rfl #[.string t406] rfl (by (try simp only [List.map_toArray, List.map_cons, List.map_nil]); first | done | rfl | (simp only [List.length_drop, List.length_take]; rfl)) ?_; (with_reducible refine (impl_TextPieces.calls k t406 t407 _ ?side1 A4.out).mono ?_); (case side1 => first | exact HG.out | exact GV_below HG.out (by repeat (first | (with_reducible first | exact HB.out | apply below_alloc | apply pw_below_drewN | apply below_drew1) | exact HB.out))); rintro e w34 ⟨v408, rfl, ho0, hb⟩; refine ⟨_, rfl, ?_⟩; have n0_ := Aside0.mk (Kd.R_lower ho0 (below_size (by repeat (first | (with_reducible first | exact HB.out | apply below_alloc | apply pw_below_drewN | apply below_drew1) | exact HB.out)))); have n1_ := Aside0.mk (below_step (by repeat (first | (with_reducible first | exact HB.out | apply below_alloc | apply pw_below_drewN | apply below_drew1) | exact HB.out)) hb); clear HB; have HO409 := n0_; have HB := n1_; clear n0_ n1_; (try clear hb); (try clear hb2); (try clear hk); (try clear hi); (try clear ho0)) | ((with_reducible refine gate_callee (f := 14) rfl ?_); refine goesL_ (some 17) rfl rfl Tryd.func14 (by kernel_rfl) rfl #[.string t406] rfl (by (try simp only [List.map_toArray, List.map_cons, List.map_nil]); first | done | rfl | (simp only [List.length_drop, List.length_take]; rfl)) ?_; (with_reducible refine (spec_TextPieces.calls k t406 t410 _ A5.out).mono ?_); rintro e w35 ⟨v411, rfl, ho0, hb⟩; refine ⟨_, rfl, ?_⟩; have n0_ := Aside0.mk (Kd.R_elder' (by (with_reducible repeat (first | apply Kd.R_alloc | apply Kd.R_drewN | apply Kd.R_drew)); exact HO409.out) (Kd.R_base ho0) hb); have n1_ := Aside0.mk (Kd.R_lower (Kd.R_new' ho0 (Kd.R_lt (by (with_reducible repeat (first | apply Kd.R_alloc | apply Kd.R_drewN | apply Kd.R_drew)); exact HO409.out))) (below_size (by repeat (first | (with_reducible first | exact HB.out | apply below_alloc | apply pw_below_drewN | apply below_drew1) | exact HB.out)))); have n2_ := Aside0.mk (below_step (by repeat (first | (with_reducible first | exact HB.out | apply below_alloc | apply pw_below_drewN | apply below_drew1) | exact HB.out)) hb); clear HO409; clear HB; have HO409 := n0_; have HO412 := n1_; have HB := n2_; clear n0_ n1_ n2_; (try clear hb); (try clear hb2); (try clear hk); (try clear hi); (try clear ho0); obtain ⟨Ao36, co36, eo36⟩ := Kd.R_slice HO409.out; subst eo36; obtain ⟨Ao37, co37, eo37⟩ := Kd.R_slice HO412.out; subst eo37) | ((with_reducible refine gate_callee (f := 24) rfl ?_); refine goesL_ (some 18) rfl rfl Tryd.func24 (by kernel_rfl) rfl #[.slice Ao36 t407.length co36, .slice Ao37 t410.length co37] rfl (by (try simp only [List.map_toArray, List.map_cons, List.map_nil]); first | done | rfl | (simp only [List.length_drop, List.length_take]; rfl)) ?_; (with_reducible refine (laws_lzPieces.calls k _ _ t407 _ _ t410 false _ ?side1 ?side2 ?side3 ?side4 A6.out).mono ?_); (case side1 => repeat (first | exact (Kd.R_reads' HO409.out).2.2 | (with_reducible refine Kd.C_alloc ?_ _) | (with_reducible refine Kd.C_drewN ?_ _) | (with_reducible refine Kd.C_drew ?_))); (case side2 => exact (Kd.R_reads' HO409.out).2.1); (case side3 => repeat (first | exact (Kd.R_reads' HO412.out).2.2 | (with_reducible refine Kd.C_alloc ?_ _) | (with_reducible refine Kd.C_drewN ?_ _) | (with_reducible refine Kd.C_drew ?_))); (case side4 => exact (Kd.R_reads' HO412.out).2.1); rintro e w' ⟨rfl, ⟨nd, rfl⟩⟩; refine ⟨_, rfl, ?_⟩))
   go_ret
   exact ⟨by first | rfl | (simp [errW_none, errW_some] <;> rfl) | (simp [*, errW_none, errW_some] <;> rfl) | (simp [errW_none, errW_some, pk_empty1, pk_empty2]; done) | (simp [*, errW_none, errW_some, pk_empty1, pk_empty2]; done), by repeat (first | (with_reducible first | exact HB.out | apply below_alloc | apply pw_below_drewN | apply below_drew1) | exact HB.out)⟩

/-- THE ONE PURE STATEMENT of laws_FnPiecesSize: yours. -/
def laws_FnPiecesSize.Pure : Prop := ∀ (l0 : List Int), l0.length ≤ maxLen → l0.length * 1 ≤ 140737488351232 → (∀ x ∈ l0, (Lit.int .u8 x).wf = true) → ∃ k, laws_FnPiecesSize.f k l0 = some true
theorem laws_FnPiecesSize.walk (P : laws_FnPiecesSize.Pure) (a0 : Option Addr) (len0 cap0 : Nat) (z0 : List Int) (w : World) (hG : GV w) (w0 : (a0 = none ∧ len0 = 0 ∧ cap0 = 0 ∧ z0 = []) ∨ ∃ x, a0 = some x ∧ len0 ≤ cap0 ∧ cap0 ≤ maxLen ∧ z0.length = cap0 ∧ (∀ i, i < z0.length → w.cell? (x.add i) = some (.int .u8 (z0.getD i 0))) ∧ ∀ n ∈ z0, (Lit.int .u8 n).wf = true) (y0 : len0 * 1 ≤ 140737488351232) :
  Calls Tryd.prog 6 #[.slice a0 len0 cap0] w fun e w' => e = .returned (.bool true) ∧ Below w.heap.size w w' := by
 obtain ⟨l0, rfl, hr0, hm0, hw0, hc0⟩ := ReadsInt.ofRowC w0
 obtain ⟨k, h⟩ := P l0 hm0 y0 hw0
 refine (laws_FnPiecesSize.calls k _ _ l0 true w (Kd.C_of_reads (d := (0 : Int)) (h1 := fun _ => rfl) hr0) hc0 hG h).mono ?_
 rintro e w' ⟨rfl, hd⟩
 exact ⟨rfl, hd⟩

end Go.Proofs.YtclhmoghkcnkmaaDoor.A
